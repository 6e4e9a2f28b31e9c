import PyProof.Rows.All
import Wide.All
import OpenK.AllK
import Wide.FinOn
import HandS.RevTup
import HandS.Rev
import HandS.Conv
import HandS.Zip
import HandS.ForMost
import HandS.Exc
import HandS.ExcOwn
import HandS.Flow
import HandS.TryOnly
import HandS.Wide
import HandS.IsInst
import HandS.TupAny
import HandS.TupLe
import HandS.Deep
import HandS.Text
import HandS.SortInts
import HandS.More
import HandS.StrMore
import HandS.SetFor
import HandS.Style
import HandS.ExcIs
import HandS.CallSlots
import HandS.WordsExc
import HandS.DeepEq
import KE.KEqNest
import HandS.ExcField
import HandS.Small
import HandS.Finally
import HandS.EndBits
import HandS.RevRange
import KE.DataFind
import HandS.Defaults
import HandS.TryMany
import HandS.ExcValue
import HandS.ExcInit
import HandS.SortKw
import PyProof.DictDisplay
import HandS.ClsMeth
import PySem.Challenge.RW_layerdraw_k11_which_arrows_are_turned
set_option Elab.async false
set_option linter.all false
set_option maxRecDepth 100000
set_option maxHeartbeats 4000000
namespace RT
open PySem PySem.Spec PyProof.Rows
/-! ### list(reversed(list)) -/
section
variable {prog : Program} {w : World} {A : Around} {E : Value → Shared → Prop} {s : Shared}
theorem extend_rev {it l : Addr} {items : Array Value} {R : Result → Shared → Prop} (hh : A.handled = none) (hit : s.heap.IsRevIter it l ((items.size : Int) - 1)) (hl : s.heap.IsList l items) (hne : l ≠ it) (hn : items.size ≤ sizeLine) (S : Addr) (res : Value) (c₀ : Nat) (hSi : S ≠ it) (hSl : S ≠ l)
    (hS : s.heap.get? S = some { cls := .type "list", data := .seq #[] c₀ })
    (hR : ∀ (h' : Heap) (tk : Nat) (acc' : Array Value) (c' : Nat), (∀ b o, b ≠ it → b ≠ S → s.heap.get? b = some o → h'.get? b = some o) → h'.get? S = some { cls := .type "list", dict := none, data := .seq acc' c', slots := #[] } → ItemsOf (fun i v => items[items.size - 1 - i]? = some v) acc' items.size → R (.ok (.ret res)) { s with heap := h', toks := tk }) :
    wpAny (model prog w) A.in1 (Builtin.List.listExtendWith (.ref S) (.ref it) res)
      (fun fin s' => match fin with | .done f => R (.ok f) s' | .again c' => c'.quiet = true ∧ codeAny (model prog w) A c' R s') (fun e s' => R (.error e) s') s := by
  have W := (Walks.listRev (prog := prog) (w := w) (A := A.in1) hh it l hne items).toS
  have hSf : S ∉ [it, l] := by simp only [List.mem_cons, List.not_mem_nil, or_false, not_or]; exact ⟨hSi, hSl⟩
  have hT : s.TypeIs (.ref it) "list_reverseiterator" := Heap.IsRevIter.typeIs hit
  have h1 : Builtin.List.listSameRef (.ref S) (.ref it) = false := by simp [Builtin.List.listSameRef, hSi]
  unfold Builtin.List.listExtendWith
  refine wpAny_bind (wpAny_typeOf hT ?_)
  rw [if_neg (by rw [h1]; decide)]
  refine wpAny_bind (wpAny_pyIter_revIter hit ?_)
  refine wpAny_bind (wpAny_holding ?_)
  unfold Builtin.List.listLengthHint
  refine wpAny_bind (wpAny_specialOf hT nolen_lri ?_)
  show wpAny _ A.in1 (specialOf (Value.ref it) (Str.ofString "__length_hint__") >>= _) _ _ _
  refine wpAny_bind (wpAny_specialOf hT hint_lri ?_)
  generalize hid : ("list_reverseiterator.__length_hint__" : String) = id0
  wp_delta
  rw [show splitId id0 = some ("list_reverseiterator", "__length_hint__") from by subst hid; decide +kernel]
  subst hid
  refine wpAny_bind (wpAny_isInstance (b := true) hT (by rw [isSubtype_type]; kernel_rfl) ?_)
  refine wpAny_pure ?_
  rw [if_neg (by decide)]
  have e0 : ((items.size : Nat) : Int) - 1 - ((0 : Nat) : Int) = (items.size : Int) - 1 := by omega
  refine wpAny_pure ⟨plainId_quiet F.plain_extend_loop _, codeAny_extend_loopS W hn _ hSf _ items.size 0 _ _ _ rfl (Nat.zero_le _) ⟨Nat.zero_le _, by rw [e0]; exact hit, hl⟩ hS (ItemsOf.nil _) fun s' acc' c' hm hS' hacc => ?_⟩
  rw [Moved.eq_with hm]
  refine hR s'.heap s'.toks acc' c' (fun b o hb hbS e => hm.heap b o (fun hmem => ?_) e) hS' hacc
  rcases List.mem_cons.mp hmem with e' | hmem
  · exact hbS e'
  · exact hb (List.mem_singleton.mp hmem)
theorem call_list_rev {it l : Addr} {items : Array Value} {Q : Value → Shared → Prop} (hh : A.handled = none) (hit : s.heap.IsRevIter it l ((items.size : Int) - 1)) (hl : s.heap.IsList l items) (hne : l ≠ it) (hn : items.size ≤ sizeLine)
    (hQ : ∀ (h' : Heap) (tk : Nat) (acc : Array Value) (c' : Nat), (∀ b o, b ≠ it → b ≠ s.heap.objs.size → s.heap.get? b = some o → h'.get? b = some o) → h'.get? s.heap.objs.size = some { cls := .type "list", dict := none, data := .seq acc c', slots := #[] } → ItemsOf (fun i v => items[items.size - 1 - i]? = some v) acc items.size →
      Q (.ref s.heap.objs.size) { s with heap := h', toks := tk }) :
    wpAny (model prog w) A (call (.type "list") [.ref it]) Q E s := by
  obtain ⟨oi, hoi, _⟩ := id hit
  obtain ⟨ol, hol, _⟩ := id hl
  have hSi : s.heap.objs.size ≠ it := Nat.ne_of_gt (Heap.lt_size hoi)
  have hSl : s.heap.objs.size ≠ l := Nat.ne_of_gt (Heap.lt_size hol)
  refine callType_codes (Q₁ := fun obj s₁ => obj = .ref s.heap.objs.size ∧ s₁ = { s with heap := s.heap.push { cls := .type "list", data := .seq #[] } }) F.called_list (F.typeCall_list_1 _) F.entry_list_init
    (code_list_new _ ⟨rfl, rfl⟩) fun obj s₁ h₁ => ?_
  obtain ⟨rfl, rfl⟩ := h₁
  have hS : (s.heap.push { cls := .type "list", data := .seq #[] }).get? s.heap.objs.size = some { cls := .type "list", data := .seq #[] } := Heap.get?_push_size _ rfl
  refine ⟨⟨_, hS, rfl⟩, F.args_list_init_2 _ _, ?_⟩
  show wpAny _ _ (do let old ← Builtin.List.listItems (.ref s.heap.objs.size); Builtin.List.listUpdate (.ref s.heap.objs.size) (fun _ => #[]); letGo old.toList.reverse; Builtin.List.listExtendWith (.ref s.heap.objs.size) (.ref it) .none) _ _ _
  refine wpAny_bind ?_
  unfold Builtin.List.listItems
  refine wpAny_bind (wpAny_seqItems hS rfl (wpAny_pure ?_))
  show wpAny _ _ (updateSeq s.heap.objs.size (fun _ => #[]) >>= fun _ => letGo (#[] : Array Value).toList.reverse >>= fun _ => Builtin.List.listExtendWith (.ref s.heap.objs.size) (.ref it) .none) _ _ _
  refine wpAny_bind (wpAny_updateSeq hS rfl ?_)
  have hS₂ := Heap.get?_update_self (Obj.mapSeq (fun _ => (#[] : Array Value))) hS rfl
  have oth : ∀ b o, b ≠ s.heap.objs.size → (s.heap.push { cls := .type "list", data := .seq #[] }).get? b = some o → ((s.heap.push { cls := .type "list", data := .seq #[] }).update s.heap.objs.size (Obj.mapSeq (fun _ => (#[] : Array Value)))).get? b = some o :=
    fun b o hb e => (Heap.get?_update_other _ _ (Ne.symm hb)).trans e
  refine wpAny_bind (wpAny_letGo ?_)
  refine extend_rev (A := A.in1) (R := _) hh ?_ ?_ hne hn s.heap.objs.size .none _ hSi hSl hS₂ fun h' tk acc' c' hk hS' hacc => ?_
  · exact hit.at fun o e => oth it o (Ne.symm hSi) (Heap.get?_push_of_some _ e)
  · obtain ⟨o2, a1, a2⟩ := hl
    exact ⟨o2, oth l o2 (Ne.symm hSl) (Heap.get?_push_of_some _ a1), a2⟩
  · exact ⟨rfl, hQ h' tk acc' c' (fun b o hb hbS e => hk b o hb hbS (oth b o hbS (Heap.get?_push_of_some _ e))) hS' hacc⟩
end
end RT
namespace LD
open PySem PySem.Spec PyProof.Rows L2
section
variable {X : Cx}
def setLen (ns : List Int) : Nat := (PyProof.Rows.firstMet (fun i => ns.getD i 0) ns.length).length
def rLenSetG (K : PySem.W.Frag) (x : V) (H : Hp) (Q : VK) : Prop := ∃ (l : Addr) (ns : List Int), x = V.ref l ∧ SqL K H l (ns.map V.int) ∧ ns.length < 63 ∧ Q (.int (setLen ns)) H
theorem pe_lenSetG {a : Expr} {ta : TE} {p p2 q pos : Pos} (hc : X.calm = true) (hg : Gl X "len") (hm : X.mg "len" = none) (hg2 : Gl X "set") (hm2 : X.mg "set" = none) (ha : PE X a ta)
    (na : starEach [a] X.env = (false, eval a X.env) :: starEach [] X.env := by rfl) : PE X (.Call (.Name "len" p) [.Call (.Name "set" p2) [a] [] q] [] pos) (fun σ H Q => ta σ H fun x H1 => ∃ y, [x] = [y] ∧ rLenSetG X.K y H1 Q) := by
  refine ⟨fun pins s σ H Q I h => ?_⟩
  refine Call_ (ld_blt I hg hm boot_len ?_)
  refine PyProof.Rows.callWith_builtin1 (PyProof.Rows.args_cons ?_ rfl) rfl rfl
  refine Call_ (ld_blt I hg2 hm2 boot_set ?_)
  refine PyProof.Rows.callWith_type1 (PyProof.Rows.args_cons (thn (ha.run pins s σ H _ I h) fun v s1 ⟨x, H1, I1, r1, q1⟩ => PyProof.Rows.args_nil ?_) na) na rfl
  obtain ⟨y, ey, l, ns, rfl, hq, hl, q1⟩ := q1
  cases ey
  cases r1
  obtain ⟨its, r, pl, hz⟩ := I1.list hq
  have hlen : its.toArray.size = ns.length := by rw [List.size_toArray, ← r.length, List.length_map]
  refine call_set_list (I1.ok.hd hc) pl.isList (by simpa using RZ.intsAre_vals r) (by rw [hlen]; unfold scanBound; omega) fun h' tk hS hk => ?_
  refine PyProof.Rows.args_nil ?_
  rw [hlen] at hS
  obtain ⟨o, es, ep, t, ho, hex, hd, _, _, _, hf, hn⟩ := hS
  have I2 : Inv X pins σ H1 { s1 with heap := h', toks := tk } := I1.kept fun b o e => hk b o (Heap.lt_size e) e
  have hle := PyProof.Rows.firstMet_length_le (fun i => ns.getD i 0) ns.length
  exact call_len_set ho hex hd hf (by rw [hn] <;> omega) ⟨.int (setLen ns), H1, I2.tok _, ⟨_, by rw [hn]; rfl⟩, q1⟩
def rRngL (a b : Int) (H : Hp) (Q : VK) : Prop := RgOk a b ∧ ∀ q, H q = none → Q (.ref q) (upd H q (.lst (rgV a b)))
def rRev (K : PySem.W.Frag) (v : V) (H : Hp) (Q : VK) : Prop := ∃ (a : Addr) (xs : List V), v = .ref a ∧ SqL K H a xs ∧ ∀ q, H q = none → Q (.ref q) (upd H q (.lst xs.reverse))
theorem pe_listRev {e : Expr} {te : TE} {p p2 pos pos2 : Pos} (hc : X.calm = true) (hg : Gl X "list") (hm : X.mg "list" = none) (hg2 : Gl X "reversed") (hm2 : X.mg "reversed" = none) (he : PE X e te)
    (hs : starEach [e] X.env = (false, eval e X.env) :: starEach [] X.env := by rfl)
    (hs2 : starEach [.Call (.Name "reversed" p2) [e] [] pos2] X.env = (false, eval (.Call (.Name "reversed" p2) [e] [] pos2) X.env) :: starEach [] X.env := by rfl) :
    PE X (.Call (.Name "list" p) [.Call (.Name "reversed" p2) [e] [] pos2] [] pos) (fun σ H Q => te σ H fun v H1 => ∃ y, [v] = [y] ∧ rRev X.K y H1 Q) := by
  refine ⟨fun pins s σ H Q I h => ?_⟩
  refine Call_ (ld_blt I hg hm boot_list (PyProof.Rows.callWith_type1 (args_cons (Call_ (ld_blt I hg2 hm2 PyProof.Rows.boot_reversed (PyProof.Rows.callWith_type1 (args_cons (thn (he.run pins s σ H _ I h) fun u s1 ⟨v, H1, I1, r1, q1⟩ => args_nil ?_) hs) hs rfl))) hs2) hs2 rfl))
  obtain ⟨y, ey, a, xs, ev, hq, q⟩ := q1
  cases ey
  subst ev
  obtain rfl : u = Value.ref a := r1
  obtain ⟨its, rv, p', hz⟩ := I1.list hq
  refine call_reversed_list p'.isList (args_nil ?_)
  have k0 : ∀ b o, s1.heap.get? b = some o → (s1.heap.push (revObj a ((its.toArray.size : Int) - 1))).get? b = some o := fun b o e => Heap.get?_push_of_some _ e
  have I2 : Inv X pins σ H1 { s1 with heap := s1.heap.push (revObj a ((its.toArray.size : Int) - 1)) } := I1.kept (t' := s1.toks) k0
  obtain ⟨f0, f1, f2, f3, f4, f5⟩ := I1.fpOk (H' := H1) (b := s1.heap.objs.size) (Nat.le_refl _) (I1.hok.fresh (Nat.le_refl _))
  have hl := p'.isList
  obtain ⟨ol, hol, _⟩ := id hl
  have hne : a ≠ s1.heap.objs.size := Nat.ne_of_lt (Heap.lt_size hol)
  have hn : its.toArray.size ≤ sizeLine := by rw [List.size_toArray, ← rv.length]; exact hz
  refine RT.call_list_rev (s := { s1 with heap := s1.heap.push (revObj a ((its.toArray.size : Int) - 1)) }) (I1.ok.hd hc) ⟨_, Heap.get?_push_size _ rfl, rfl, rfl⟩ (hl.push _) hne hn fun h' tk acc c' hk hS hi => ?_
  have hf : ∀ b ∈ [s1.heap.objs.size], FpOk X pins H1 b := fun b hb => by
    rw [List.mem_singleton.mp hb]
    exact I1.fpOk (H' := H1) (b := s1.heap.objs.size) (Nat.le_refl _) (I1.hok.fresh (Nat.le_refl _))
  have new : ObjOk X.prog X.w (upd H1 (s1.heap.push (revObj a ((its.toArray.size : Int) - 1))).objs.size (.lst xs.reverse)) h' (s1.heap.push (revObj a ((its.toArray.size : Int) - 1))).objs.size (.lst xs.reverse) :=
    ⟨by rw [List.length_reverse]; exact hz, acc.toList, c', RT.vals_rev rv hi, by rw [Array.toArray_toList]; exact hS⟩
  have I3 := I2.turnedNew (t' := tk) (ch := [s1.heap.objs.size]) (fun b o hb e => hk b o (fun q => hb (by rw [q]; simp)) (Nat.ne_of_lt (Heap.lt_size e)) e) hf (Nat.le_refl _) new
  exact ⟨.ref (s1.heap.push (revObj a ((its.toArray.size : Int) - 1))).objs.size, _, I3, rfl, q _ (I2.hok.fresh (Nat.le_refl _))⟩
theorem prg_1L {a : Expr} {ta : TE} {p pos : Pos} (hg : Gl X "range") (hm : X.mg "range" = none) (ha : PE X a ta) (na : starEach [a] X.env = (false, eval a X.env) :: starEach [] X.env := by rfl) : PRg X (.Call (.Name "range" p) [a] [] pos) (fun σ H Q => ta σ H fun x H1 => ∃ b : Int, [x] = [V.int b] ∧ Q 0 b H1) := by
  intro pins s σ H Q I h
  refine Call_ (ld_blt I hg hm boot_range (PyProof.Rows.callWith_type1 (one_arg ha I h (fun v s2 x H2 I2 r q => ?_) na) na))
  obtain ⟨n, e, q⟩ := q
  cases e
  obtain ⟨t, rfl⟩ := r
  exact call_range_1 ⟨_, 0, n, _, _, _, H2, rfl, IsRange.new _ _ _ _ _ _ _, I2.kept fun b u e => Heap.get?_push_of_some _ e, q⟩
theorem prg_2L {a b : Expr} {ta tb : TE} {p pos : Pos} (hg : Gl X "range") (hm : X.mg "range" = none) (ha : PE X a ta) (hb : PE X b tb) (na : starEach [a, b] X.env = (false, eval a X.env) :: starEach [b] X.env := by rfl)
    (nb : starEach [b] X.env = (false, eval b X.env) :: starEach [] X.env := by rfl) (hp : (backTo pos (starEach [b] X.env)).any (·.1) = false := by rfl) : PRg X (.Call (.Name "range" p) [a, b] [] pos) (fun σ H Q => ta σ H fun x H1 => tb σ H1 fun y H2 => ∃ i j : Int, [x, y] = [V.int i, V.int j] ∧ Q i j H2) := by
  intro pins s σ H Q I h
  refine Call_ (ld_blt I hg hm boot_range (PyProof.Rows.callWith_type1 (args_cons (thn (ha.run pins s σ H _ I h) fun v s1 ⟨x, H1, I1, r1, q1⟩ => one_arg hb I1 q1 (fun u s2 y H2 I2 r2 q => ?_) nb) na) na hp))
  obtain ⟨i, j, e, q⟩ := q
  cases e
  obtain ⟨t, rfl⟩ := r1
  obtain ⟨t', rfl⟩ := r2
  exact call_range_2 ⟨_, i, j, _, _, _, H2, rfl, IsRange.new _ _ _ _ _ _ _, I2.kept fun b u e => Heap.get?_push_of_some _ e, q⟩
end
end LD
namespace LD
open PySem PySem.Spec PyProof.Rows L2

/-- plain data, by value; m: owned (its list, dict, instance may be changed) -/
inductive D where
  | non | bl (b : Bool) | int (i : Int) | str (s : Str)
  | tup (l : List D) | lst (m : Bool) (l : List D)
  | dct (m : Bool) (ks : List Key) (l : List D)
  | ins (m : Bool) (c : Str) (fs : List Str) (l : List D)
  | exn (c : Str) (fs : List Str) (l : List D)

/-- a class of exceptions, by its number -/
def isX (c : Str) : Bool := decide (c.cps.size = 2)
@[simp] theorem isX_1 (n : Nat) : isX ⟨#[n]⟩ = false := id rfl
@[simp] theorem isX_2 (n m : Nat) : isX ⟨#[n, m]⟩ = true := id rfl
/-- a caught exception, and its dict -/
def XO (C : Addr) (d : Option Addr) (a : Addr) : HO := .ext fun h => ∃ oe : Obj, h.get? a = some oe ∧ Zc (.ref C) d oe ∧ ∃ vs, oe.data = .fields vs
def XD (G : Hp) : Option Addr → List (Str × V) → Prop
  | none, kvs => kvs = []
  | some dd, kvs => Rd G dd (.xd kvs)
variable (K : PySem.W.Frag) (ct : Str → Option Addr)
mutual
def RepD (G H : Hp) : D → V → List Addr → Prop
  | .non, v, fp => v = .non ∧ fp = []
  | .bl b, v, fp => v = .bl b ∧ fp = []
  | .int i, v, fp => v = .int i ∧ fp = []
  | .str s, v, fp => v = .str s ∧ fp = []
  | .tup l, v, fp => ∃ a xs, v = .ref a ∧ SqT K G a xs ∧ RepL G H l xs fp
  | .lst false l, v, fp => fp = [] ∧ ∃ a xs, v = .ref a ∧ SqL K G a xs ∧ RepL G H l xs []
  | .lst true l, v, fp => ∃ a xs f, v = .ref a ∧ fp = a :: f ∧ H a = some (.lst xs) ∧ RepL G H l xs f
  | .dct false ks l, v, fp => fp = [] ∧ ∃ a xs, v = .ref a ∧ Rd G a (.dK (ks.zip xs)) ∧ ks.length = l.length ∧ RepL G H l xs []
  | .dct true ks l, v, fp => ∃ a xs f, v = .ref a ∧ fp = a :: f ∧ H a = some (.dK (ks.zip xs)) ∧ ks.length = l.length ∧ RepL G H l xs f
  | .ins false c fs l, v, fp => fp = [] ∧ ∃ a C dx xs, v = .ref a ∧ ct c = some C ∧ G a = some (.ins C dx (fs.zip xs)) ∧ fs.length = l.length ∧ RepL G H l xs []
  | .ins true c fs l, v, fp => ∃ a C dx xs f, v = .ref a ∧ fp = a :: f ∧ ct c = some C ∧ H a = some (.ins C dx (fs.zip xs)) ∧ fs.length = l.length ∧ RepL G H l xs f
  | .exn c fs l, v, fp => fp = [] ∧ ∃ a C d xs, v = .ref a ∧ ct c = some C ∧ Rd G a (XO C d a) ∧ XD G d (fs.zip xs) ∧ fs.length = l.length ∧ RepL G H l xs []
def RepL (G H : Hp) : List D → List V → List Addr → Prop
  | [], xs, fp => xs = [] ∧ fp = []
  | d :: ds, xs, fp => ∃ v vs f g, xs = v :: vs ∧ fp = f ++ g ∧ RepD G H d v f ∧ RepL G H ds vs g
end

-- frozen data: no owned node
mutual
def D.fz : D → Bool
  | .tup l => D.fzL l
  | .lst m l => !m && D.fzL l
  | .dct m _ l => !m && D.fzL l
  | .ins m _ _ l => !m && D.fzL l
  | .exn _ _ l => D.fzL l
  | _ => true
def D.fzL : List D → Bool
  | [] => true
  | d :: r => D.fz d && D.fzL r
end
mutual
def D.freeze : D → D
  | .tup l => .tup (D.freezeL l)
  | .lst _ l => .lst false (D.freezeL l)
  | .dct _ ks l => .dct false ks (D.freezeL l)
  | .ins _ c fs l => .ins false c fs (D.freezeL l)
  | .exn c fs l => .exn c fs (D.freezeL l)
  | .non => .non
  | .bl b => .bl b
  | .int i => .int i
  | .str s => .str s
def D.freezeL : List D → List D
  | [] => []
  | d :: r => D.freeze d :: D.freezeL r
end
-- nothing in it is shared: no frozen list, dict, instance
mutual
def D.clean : D → Bool
  | .tup l => D.cleanL l
  | .lst m l => m && D.cleanL l
  | .dct m _ l => m && D.cleanL l
  | .ins m _ _ l => m && D.cleanL l
  | .exn _ _ _ => false
  | _ => true
def D.cleanL : List D → Bool
  | [] => true
  | d :: r => D.clean d && D.cleanL r
end

/-! ### heaps -/
structure Le (G H : Hp) : Prop where
  rd : ∀ a u, Rd G a u → Rd H a u
  ins : ∀ a C dx fs, G a = some (.ins C dx fs) → H a = some (.ins C dx fs)
theorem Le.refl (G : Hp) : Le G G := ⟨fun _ _ h => h, fun _ _ _ _ h => h⟩
theorem Le.trans {G H I : Hp} (x : Le G H) (y : Le H I) : Le G I := ⟨fun a u h => y.rd a u (x.rd a u h), fun a C dx fs h => y.ins a C dx fs (x.ins a C dx fs h)⟩
theorem Le.of {G H : Hp} (h : ∀ a o, G a = some o → H a = some o) : Le G H :=
  ⟨fun a u r => by
    rcases r with r | ⟨o, r⟩
    · exact .inl (h _ _ r)
    · exact .inr ⟨o, h _ _ r⟩, fun a C dx fs r => h _ _ r⟩
theorem Le.dom {G H : Hp} (x : Le G H) {a : Addr} (h : H a = none) : G a = none := by
  cases e : G a with
  | none => rfl
  | some o =>
    rcases x.rd a o (.inl e) with r | ⟨u, r⟩ <;> (rw [h] at r; cases r)
theorem Le.xd {G H : Hp} (x : Le G H) {d : Option Addr} {kvs : List (Str × V)} (h : XD G d kvs) : XD H d kvs := by
  cases d with
  | none => exact h
  | some dd => exact x.rd dd _ h
variable {K ct}
theorem Le.sqL {G H : Hp} (x : Le G H) {a : Addr} {xs : List V} (h : SqL K G a xs) : SqL K H a xs := by
  rcases h with h | h
  · exact .inl (x.rd _ _ h)
  · exact .inr h
theorem Le.sqT {G H : Hp} (x : Le G H) {a : Addr} {xs : List V} (h : SqT K G a xs) : SqT K H a xs := by
  rcases h with h | h
  · exact .inl (x.rd _ _ h)
  · exact .inr h

/-! ### Rep along heaps -/
mutual
theorem RepD.mono {G H G' H' : Hp} (x : Le G G') : ∀ {d : D} {v : V} {f : List Addr}, RepD K ct G H d v f → (∀ a ∈ f, H' a = H a) → RepD K ct G' H' d v f
  | .non, _, _, h, _ => h
  | .bl _, _, _, h, _ => h
  | .int _, _, _, h, _ => h
  | .str _, _, _, h, _ => h
  | .tup _, _, _, ⟨a, xs, e, s, r⟩, k => ⟨a, xs, e, x.sqT s, RepL.mono x r k⟩
  | .lst false _, _, _, ⟨e0, a, xs, e, s, r⟩, k => ⟨e0, a, xs, e, x.sqL s, RepL.mono x r (fun _ h => by cases h)⟩
  | .lst true _, _, _, ⟨a, xs, f, e, e0, s, r⟩, k => ⟨a, xs, f, e, e0, by rw [k a (by rw [e0]; exact List.mem_cons_self)]; exact s, RepL.mono x r (fun b h => k b (by rw [e0]; exact List.mem_cons_of_mem _ h))⟩
  | .dct false _ _, _, _, ⟨e0, a, xs, e, s, l, r⟩, k => ⟨e0, a, xs, e, x.rd _ _ s, l, RepL.mono x r (fun _ h => by cases h)⟩
  | .dct true _ _, _, _, ⟨a, xs, f, e, e0, s, l, r⟩, k => ⟨a, xs, f, e, e0, by rw [k a (by rw [e0]; exact List.mem_cons_self)]; exact s, l, RepL.mono x r (fun b h => k b (by rw [e0]; exact List.mem_cons_of_mem _ h))⟩
  | .ins false _ _ _, _, _, ⟨e0, a, C, dx, xs, e, c, s, l, r⟩, k => ⟨e0, a, C, dx, xs, e, c, x.ins _ _ _ _ s, l, RepL.mono x r (fun _ h => by cases h)⟩
  | .ins true _ _ _, _, _, ⟨a, C, dx, xs, f, e, e0, c, s, l, r⟩, k => ⟨a, C, dx, xs, f, e, e0, c, by rw [k a (by rw [e0]; exact List.mem_cons_self)]; exact s, l, RepL.mono x r (fun b h => k b (by rw [e0]; exact List.mem_cons_of_mem _ h))⟩
  | .exn _ _ _, _, _, ⟨e0, a, C, d, xs, e, c, s, s2, l, r⟩, k => ⟨e0, a, C, d, xs, e, c, x.rd _ _ s, x.xd s2, l, RepL.mono x r (fun _ h => by cases h)⟩
theorem RepL.mono {G H G' H' : Hp} (x : Le G G') : ∀ {ds : List D} {vs : List V} {f : List Addr}, RepL K ct G H ds vs f → (∀ a ∈ f, H' a = H a) → RepL K ct G' H' ds vs f
  | [], _, _, h, _ => h
  | d :: ds, _, _, ⟨v, vs, f, g, e, e0, r, rs⟩, k => ⟨v, vs, f, g, e, e0, RepD.mono x r (fun a h => k a (by rw [e0]; exact List.mem_append_left _ h)), RepL.mono x rs (fun a h => k a (by rw [e0]; exact List.mem_append_right _ h))⟩
end
mutual
theorem RepD.fz {G H : Hp} : ∀ {d : D} {v : V} {f : List Addr}, RepD K ct G H d v f → d.fz = true → f = []
  | .non, _, _, ⟨_, h⟩, _ => h
  | .bl _, _, _, ⟨_, h⟩, _ => h
  | .int _, _, _, ⟨_, h⟩, _ => h
  | .str _, _, _, ⟨_, h⟩, _ => h
  | .tup _, _, _, ⟨a, xs, e, s, r⟩, k => RepL.fz r k
  | .lst false _, _, _, ⟨e0, _⟩, k => e0
  | .lst true _, _, _, _, k => by cases k
  | .dct false _ _, _, _, ⟨e0, _⟩, k => e0
  | .dct true _ _, _, _, _, k => by cases k
  | .ins false _ _ _, _, _, ⟨e0, _⟩, k => e0
  | .ins true _ _ _, _, _, _, k => by cases k
  | .exn _ _ _, _, _, ⟨e0, _⟩, k => e0
theorem RepL.fz {G H : Hp} : ∀ {ds : List D} {vs : List V} {f : List Addr}, RepL K ct G H ds vs f → D.fzL ds = true → f = []
  | [], _, _, ⟨_, h⟩, _ => h
  | d :: ds, _, _, ⟨v, vs, f, g, e, e0, r, rs⟩, k => by
    have k' : (d.fz && D.fzL ds) = true := k
    rw [Bool.and_eq_true] at k'
    rw [e0, RepD.fz r k'.1, RepL.fz rs k'.2]; rfl
end
mutual
theorem RepD.fzOf {G H : Hp} : ∀ {d : D} {v : V}, RepD K ct G H d v [] → d.fz = true
  | .non, _, _ => rfl
  | .bl _, _, _ => rfl
  | .int _, _, _ => rfl
  | .str _, _, _ => rfl
  | .tup _, _, ⟨a, xs, e, s, r⟩ => RepL.fzOf r
  | .lst false _, _, ⟨e0, a, xs, e, s, r⟩ => RepL.fzOf r
  | .lst true _, _, ⟨a, xs, f, e, e0, _⟩ => by cases e0
  | .dct false _ _, _, ⟨e0, a, xs, e, s, l, r⟩ => RepL.fzOf r
  | .dct true _ _, _, ⟨a, xs, f, e, e0, _⟩ => by cases e0
  | .ins false _ _ _, _, ⟨e0, a, C, dx, xs, e, c, s, l, r⟩ => RepL.fzOf r
  | .ins true _ _ _, _, ⟨a, C, dx, xs, f, e, e0, _⟩ => by cases e0
  | .exn _ _ _, _, ⟨e0, a, C, d, xs, e, c, s, s2, l, r⟩ => RepL.fzOf r
theorem RepL.fzOf {G H : Hp} : ∀ {ds : List D} {vs : List V}, RepL K ct G H ds vs [] → D.fzL ds = true
  | [], _, _ => rfl
  | d :: ds, _, ⟨v, vs, f, g, e, e0, r, rs⟩ => by
    obtain ⟨rfl, rfl⟩ := List.append_eq_nil_iff.mp e0.symm
    show (d.fz && D.fzL ds) = true
    rw [RepD.fzOf r, RepL.fzOf rs]; rfl
end
theorem RepL.length {G H : Hp} : ∀ {ds : List D} {vs : List V} {f : List Addr}, RepL K ct G H ds vs f → vs.length = ds.length
  | [], _, _, ⟨h, _⟩ => by rw [h]; rfl
  | d :: ds, _, _, ⟨v, vs, f, g, e, e0, r, rs⟩ => by rw [e, List.length_cons, List.length_cons, RepL.length rs]
theorem RepL.append {G H : Hp} : ∀ {ds es : List D} {vs us : List V} {f g : List Addr}, RepL K ct G H ds vs f → RepL K ct G H es us g → RepL K ct G H (ds ++ es) (vs ++ us) (f ++ g)
  | [], _, _, _, _, _, ⟨h, h'⟩, r => by rw [h, h']; exact r
  | d :: ds, _, _, _, _, _, ⟨v, vs, f, g, e, e0, r, rs⟩, q => ⟨v, _, f, _, by rw [e]; rfl, by rw [e0, List.append_assoc], r, RepL.append rs q⟩
theorem RepL.split {G H : Hp} : ∀ {ds es : List D} {vs : List V} {f : List Addr}, RepL K ct G H (ds ++ es) vs f → ∃ v1 v2 f1 f2, vs = v1 ++ v2 ∧ f = f1 ++ f2 ∧ RepL K ct G H ds v1 f1 ∧ RepL K ct G H es v2 f2
  | [], _, vs, f, r => ⟨[], vs, [], f, rfl, rfl, ⟨rfl, rfl⟩, r⟩
  | d :: ds, _, _, _, ⟨v, vs, f, g, e, e0, r, rs⟩ => by
    obtain ⟨v1, v2, f1, f2, e1, e2, r1, r2⟩ := RepL.split rs
    exact ⟨v :: v1, v2, f ++ f1, f2, by rw [e, e1]; rfl, by rw [e0, e2, List.append_assoc], ⟨v, v1, f, f1, rfl, rfl, r, r1⟩, r2⟩
/-- the k-th of a row, and the rest -/
theorem RepL.at {G H : Hp} : ∀ {ds : List D} {vs : List V} {f : List Addr} {k : Nat} {d : D}, RepL K ct G H ds vs f → ds[k]? = some d →
    ∃ v fa f1 fb, vs[k]? = some v ∧ f = fa ++ f1 ++ fb ∧ RepD K ct G H d v f1 ∧
      ∀ G' H' d2 f2, Le G G' → (∀ a ∈ fa ++ fb, H' a = H a) → RepD K ct G' H' d2 v f2 → RepL K ct G' H' (ds.set k d2) vs (fa ++ f2 ++ fb)
  | [], _, _, _, _, _, h => by simp at h
  | d :: ds, _, _, 0, d', ⟨v, vs, f, g, e, e0, r, rs⟩, h => by
    have h' : d = d' := by simpa using h
    subst h'
    refine ⟨v, [], f, g, by rw [e]; rfl, by rw [e0]; rfl, r, fun G' H' d2 f2 le k q => ⟨v, vs, f2, g, e, rfl, q, RepL.mono le rs fun a ha => k a ha⟩⟩
  | d :: ds, _, _, k + 1, d', ⟨v, vs, f, g, e, e0, r, rs⟩, h => by
    obtain ⟨v1, fa, f1, fb, h1, h2, h3, h4⟩ := RepL.at (k := k) rs (by simpa using h)
    refine ⟨v1, f ++ fa, f1, fb, by rw [e]; simpa using h1, by rw [e0, h2]; simp [List.append_assoc], h3, fun G' H' d2 f2 le kk q => ?_⟩
    refine ⟨v, vs, f, fa ++ f2 ++ fb, e, by simp [List.append_assoc], RepD.mono le r fun a ha => kk a (by simp [ha]), h4 G' H' d2 f2 le (fun a ha => kk a ?_) q⟩
    rcases List.mem_append.mp ha with z | z <;> simp [z]
/-- frozen rows: item by item -/
theorem RepL.get {G H : Hp} {ds : List D} {vs : List V} {k : Nat} {d : D} (r : RepL K ct G H ds vs []) (h : ds[k]? = some d) : ∃ v, vs[k]? = some v ∧ RepD K ct G H d v [] := by
  obtain ⟨v, fa, f1, fb, h1, h2, h3, _⟩ := RepL.at r h
  have e : f1 = [] := by
    rcases f1 with _ | ⟨a, f1⟩
    · rfl
    · simp at h2
  exact ⟨v, h1, e ▸ h3⟩
end LD
namespace LD
open PySem PySem.Spec PyProof.Rows L2
variable {K : PySem.W.Frag} {ct : Str → Option Addr}

/-! ### steps of heaps -/
/-- G: what is frozen; fs: what is owned -/
structure WS (G H : Hp) (fs : List Addr) : Prop where
  le : Le G H
  nd : fs.Nodup
  gn : ∀ a, a ∈ fs → G a = none
  hn : ∀ a, a ∈ fs → H a ≠ none
structure XT (G H : Hp) (fs : List Addr) (G' H' : Hp) (fs' : List Addr) : Prop where
  eq : ∀ a, G a ≠ none → G' a = G a
  ws : WS G' H' fs'
  fr : ∀ a, H a ≠ none → a ∉ fs → H' a = H a
  dm : ∀ a, H a ≠ none → H' a ≠ none
  nw : ∀ a, G' a ≠ none → G a ≠ none ∨ H a = none ∨ a ∈ fs
  fp : ∀ a, a ∈ fs' → H a = none ∨ a ∈ fs
theorem ne_some {G : Hp} {a : Addr} (h : G a ≠ none) : ∃ o, G a = some o := by
  cases e : G a with
  | none => exact absurd e h
  | some o => exact ⟨o, rfl⟩
theorem XT.le {G H G' H' : Hp} {fs fs' : List Addr} (x : XT G H fs G' H' fs') : Le G G' := Le.of fun a o e => by rw [x.eq a (by rw [e]; exact fun z => by cases z)]; exact e
theorem WS.nil {G H : Hp} (h : Le G H) : WS G H [] := ⟨h, List.nodup_nil, fun _ h => (by cases h), fun _ h => (by cases h)⟩
theorem WS.sub {G H : Hp} {fs gs : List Addr} (w : WS G H fs) (h : ∀ a, a ∈ gs → a ∈ fs) (nd : gs.Nodup) : WS G H gs := ⟨w.le, nd, fun a m => w.gn a (h a m), fun a m => w.hn a (h a m)⟩
theorem WS.left {G H : Hp} {fs gs : List Addr} (w : WS G H (fs ++ gs)) : WS G H fs := w.sub (fun a m => List.mem_append_left _ m) (List.nodup_append.mp w.nd).1
theorem WS.right {G H : Hp} {fs gs : List Addr} (w : WS G H (fs ++ gs)) : WS G H gs := w.sub (fun a m => List.mem_append_right _ m) (List.nodup_append.mp w.nd).2.1
theorem WS.perm {G H : Hp} {fs gs : List Addr} (w : WS G H fs) (p : fs.Perm gs) : WS G H gs := w.sub (fun a m => p.mem_iff.mpr m) (p.nodup_iff.mp w.nd)
theorem WS.apart {G H : Hp} {fs gs : List Addr} (w : WS G H (fs ++ gs)) {a : Addr} (h : a ∈ fs) (h' : a ∈ gs) : False := (List.nodup_append.mp w.nd).2.2 a h a h' rfl
theorem XT.refl {G H : Hp} {fs : List Addr} (w : WS G H fs) : XT G H fs G H fs := ⟨fun _ _ => rfl, w, fun _ _ _ => rfl, fun _ h => h, fun _ h => .inl h, fun _ h => .inr h⟩
theorem XT.trans {G H G1 H1 G2 H2 : Hp} {fs f1 f2 : List Addr} (x : XT G H fs G1 H1 f1) (y : XT G1 H1 f1 G2 H2 f2) : XT G H fs G2 H2 f2 where
  eq := fun a h => by
    have e := x.eq a h
    rw [y.eq a (by rw [e]; exact h), e]
  ws := y.ws
  fr := fun a h n => by
    have e := x.fr a h n
    rw [y.fr a (by rw [e]; exact h) (fun m => by rcases x.fp a m with z | z; exact h z; exact n z), e]
  dm := fun a h => y.dm a (x.dm a h)
  nw := fun a h => by
    rcases y.nw a h with z | z | z
    · exact x.nw a z
    · cases e : H a with
      | none => exact .inr (.inl rfl)
      | some o => exact absurd z (x.dm a (by rw [e]; exact fun q => by cases q))
    · exact .inr (x.fp a z)
  fp := fun a h => by
    rcases y.fp a h with z | z
    · cases e : H a with
      | none => exact .inl rfl
      | some o => exact absurd z (x.dm a (by rw [e]; exact fun q => by cases q))
    · exact x.fp a z
/-- what is owned beside stays -/
theorem XT.beside {G H G' H' : Hp} {fs fs' r : List Addr} (x : XT G H fs G' H' fs') (w : WS G H (fs ++ r)) : XT G H (fs ++ r) G' H' (fs' ++ r) where
  eq := x.eq
  ws := by
    have out : ∀ a, a ∈ r → a ∉ fs' := fun a m z => by
      rcases x.fp a z with q | q
      · exact w.hn a (List.mem_append_right _ m) q
      · exact w.apart q m
    refine ⟨x.ws.le, List.nodup_append.mpr ⟨x.ws.nd, (List.nodup_append.mp w.nd).2.1, fun a m b m' e => out b m' (e ▸ m)⟩, fun a m => ?_, fun a m => ?_⟩
    · rcases List.mem_append.mp m with m | m
      · exact x.ws.gn a m
      · cases e : G' a with
        | none => rfl
        | some o =>
          rcases x.nw a (by rw [e]; exact fun q => by cases q) with z | z | z
          · exact absurd (w.gn a (List.mem_append_right _ m)) z
          · exact absurd z (w.hn a (List.mem_append_right _ m))
          · exact (w.apart z m).elim
    · rcases List.mem_append.mp m with m | m
      · exact x.ws.hn a m
      · exact x.dm a (w.hn a (List.mem_append_right _ m))
  fr := fun a h n => x.fr a h fun m => n (List.mem_append_left _ m)
  dm := x.dm
  nw := fun a h => by
    rcases x.nw a h with z | z | z
    · exact .inl z
    · exact .inr (.inl z)
    · exact .inr (.inr (List.mem_append_left _ z))
  fp := fun a h => by
    rcases List.mem_append.mp h with h | h
    · rcases x.fp a h with z | z
      · exact .inl z
      · exact .inr (List.mem_append_left _ z)
    · exact .inr (List.mem_append_right _ h)
theorem XT.drop {G H G' H' : Hp} {fs fs' gs : List Addr} (x : XT G H fs G' H' fs') (h : ∀ a, a ∈ gs → a ∈ fs') (nd : gs.Nodup) : XT G H fs G' H' gs :=
  ⟨x.eq, x.ws.sub h nd, x.fr, x.dm, x.nw, fun a m => x.fp a (h a m)⟩
theorem XT.permR {G H G' H' : Hp} {fs fs' gs : List Addr} (x : XT G H fs G' H' fs') (p : fs'.Perm gs) : XT G H fs G' H' gs := x.drop (fun a m => p.mem_iff.mpr m) (p.nodup_iff.mp x.ws.nd)
theorem XT.permL {G H G' H' : Hp} {fs fs' gs : List Addr} (x : XT G H fs G' H' fs') (p : ∀ a, a ∈ fs → a ∈ gs) : XT G H gs G' H' fs' :=
  ⟨x.eq, x.ws, fun a h n => x.fr a h fun m => n (p a m), x.dm, fun a h => by
    rcases x.nw a h with z | z | z
    · exact .inl z
    · exact .inr (.inl z)
    · exact .inr (.inr (p a z)), fun a h => by
    rcases x.fp a h with z | z
    · exact .inl z
    · exact .inr (p a z)⟩
/-- beside, of the left part -/
theorem XT.besideL {G H G' H' : Hp} {fs fs' r : List Addr} (x : XT G H fs G' H' fs') (w : WS G H (r ++ fs)) : XT G H (r ++ fs) G' H' (r ++ fs') :=
  ((x.beside (w.perm List.perm_append_comm)).permR List.perm_append_comm).permL fun a m => by
    rcases List.mem_append.mp m with m | m
    · exact List.mem_append_right _ m
    · exact List.mem_append_left _ m
theorem XT.keep {G H G' H' : Hp} {fs fs' r : List Addr} (x : XT G H fs G' H' fs') (w : WS G H (fs ++ r)) : ∀ a, a ∈ r → H' a = H a := fun a m => x.fr a (w.hn a (List.mem_append_right _ m)) fun z => w.apart z m
/-- a new owned object; a new frozen one -/
theorem XT.new {G H : Hp} {fs : List Addr} {p : Addr} {o : HO} (w : WS G H fs) (h : H p = none) : XT G H fs G (upd H p o) (p :: fs) where
  eq := fun _ _ => rfl
  ws := by
    have ne : p ∉ fs := fun m => w.hn p m h
    refine ⟨w.le.trans (Le.of fun a u e => by rw [upd_ne (ne_of_none e h)]; exact e), List.nodup_cons.mpr ⟨ne, w.nd⟩, fun a m => ?_, fun a m => ?_⟩
    · rcases List.mem_cons.mp m with rfl | m
      · exact w.le.dom h
      · exact w.gn a m
    · rcases List.mem_cons.mp m with rfl | m
      · rw [upd_same]; exact fun z => by cases z
      · rw [upd_ne (show a ≠ p from fun e => ne (by rw [← e]; exact m))]; exact w.hn a m
  fr := fun a k _ => upd_ne fun e => k (by rw [e]; exact h)
  dm := fun a k => by rw [upd_ne fun e => k (by rw [e]; exact h)]; exact k
  nw := fun _ k => .inl k
  fp := fun a m => by
    rcases List.mem_cons.mp m with rfl | m
    · exact .inl h
    · exact .inr m
theorem XT.newG {G H : Hp} {fs : List Addr} {p : Addr} {o : HO} (w : WS G H fs) (h : H p = none) : XT G H fs (upd G p o) (upd H p o) fs where
  eq := fun a k => upd_ne fun e => k (by rw [e]; exact w.le.dom h)
  ws := by
    have ne : p ∉ fs := fun m => w.hn p m h
    refine ⟨⟨fun a u r => ?_, fun a C dx l e => ?_⟩, w.nd, fun a m => ?_, fun a m => ?_⟩
    · by_cases e : a = p
      · subst e
        rcases r with r | ⟨ob, r⟩ <;> rw [upd_same] at r
        · exact .inl (by rw [upd_same]; exact r)
        · exact .inr ⟨ob, by rw [upd_same]; exact r⟩
      · have r' : Rd G a u := by
          rcases r with r | ⟨ob, r⟩ <;> rw [upd_ne e] at r
          · exact .inl r
          · exact .inr ⟨ob, r⟩
        rcases w.le.rd a u r' with q | ⟨ob, q⟩
        · exact .inl (by rw [upd_ne e]; exact q)
        · exact .inr ⟨ob, by rw [upd_ne e]; exact q⟩
    · by_cases q : a = p
      · subst q; rw [upd_same] at e ⊢; exact e
      · rw [upd_ne q] at e ⊢; exact w.le.ins a C dx l e
    · rw [upd_ne (show a ≠ p from fun e => ne (by rw [← e]; exact m))]; exact w.gn a m
    · rw [upd_ne (show a ≠ p from fun e => ne (by rw [← e]; exact m))]; exact w.hn a m
  fr := fun a k _ => upd_ne fun e => k (by rw [e]; exact h)
  dm := fun a k => by rw [upd_ne fun e => k (by rw [e]; exact h)]; exact k
  nw := fun a k => by
    by_cases e : a = p
    · exact .inr (.inl (by rw [e]; exact h))
    · rw [upd_ne e] at k; exact .inl k
  fp := fun a m => .inr m
/-- an owned object is changed; fs: it and what it owned; what it owns then -/
theorem XT.write {G H : Hp} {p : Addr} {f g : List Addr} {o : HO} (w : WS G H (p :: f)) (nd : (p :: g).Nodup) (hg : ∀ a, a ∈ g → a ∈ f) : XT G H (p :: f) G (upd H p o) (p :: g) where
  eq := fun _ _ => rfl
  ws := by
    have gp := w.gn p List.mem_cons_self
    refine ⟨⟨fun a u r => ?_, fun a C dx l e => ?_⟩, nd, fun a m => ?_, fun a m => ?_⟩
    · have ne : a ≠ p := fun e => by
        subst e
        rcases r with r | ⟨ob, r⟩ <;> (rw [gp] at r; cases r)
      rcases w.le.rd a u r with q | ⟨ob, q⟩
      · exact .inl (by rw [upd_ne ne]; exact q)
      · exact .inr ⟨ob, by rw [upd_ne ne]; exact q⟩
    · have ne : a ≠ p := fun z => by subst z; rw [gp] at e; cases e
      rw [upd_ne ne]; exact w.le.ins a C dx l e
    · rcases List.mem_cons.mp m with rfl | m
      · exact gp
      · exact w.gn a (List.mem_cons_of_mem _ (hg a m))
    · by_cases e : a = p
      · subst e; rw [upd_same]; exact fun z => by cases z
      · rw [upd_ne e]
        rcases List.mem_cons.mp m with z | m
        · exact absurd z e
        · exact w.hn a (List.mem_cons_of_mem _ (hg a m))
  fr := fun a k n => upd_ne fun e => n (e ▸ List.mem_cons_self)
  dm := fun a k => by
    by_cases e : a = p
    · subst e; rw [upd_same]; exact fun z => by cases z
    · rw [upd_ne e]; exact k
  nw := fun _ k => .inl k
  fp := fun a m => by
    rcases List.mem_cons.mp m with rfl | m
    · exact .inr List.mem_cons_self
    · exact .inr (List.mem_cons_of_mem _ (hg a m))

/-! ### to freeze -/
def frozen (G H : Hp) (f : List Addr) : Hp := fun a => if a ∈ f then H a else G a
theorem XT.frz {G H : Hp} {f r : List Addr} (w : WS G H (f ++ r)) : XT G H (f ++ r) (frozen G H f) H r where
  eq := fun a h => by
    unfold frozen
    rw [if_neg fun m => h (w.gn a (List.mem_append_left _ m))]
  ws := by
    refine ⟨⟨fun a u q => ?_, fun a C dx l q => ?_⟩, (List.nodup_append.mp w.nd).2.1, fun a m => ?_, fun a m => w.hn a (List.mem_append_right _ m)⟩
    · by_cases m : a ∈ f
      · have e : frozen G H f a = H a := if_pos m
        rcases q with q | ⟨o, q⟩ <;> rw [e] at q
        · exact .inl q
        · exact .inr ⟨o, q⟩
      · have e : frozen G H f a = G a := if_neg m
        apply w.le.rd
        rcases q with q | ⟨o, q⟩ <;> rw [e] at q
        · exact .inl q
        · exact .inr ⟨o, q⟩
    · by_cases m : a ∈ f
      · rw [show frozen G H f a = H a from if_pos m] at q; exact q
      · rw [show frozen G H f a = G a from if_neg m] at q; exact w.le.ins a C dx l q
    · unfold frozen
      rw [if_neg fun z => w.apart z m]
      exact w.gn a (List.mem_append_right _ m)
  fr := fun _ _ _ => rfl
  dm := fun _ h => h
  nw := fun a h => by
    by_cases m : a ∈ f
    · exact .inr (.inr (List.mem_append_left _ m))
    · rw [show frozen G H f a = G a from if_neg m] at h; exact .inl h
  fp := fun a m => .inr (List.mem_append_right _ m)
mutual
theorem RepD.frz {G H : Hp} {f0 : List Addr} (le : Le G (frozen G H f0)) : ∀ {d : D} {v : V} {f : List Addr}, RepD K ct G H d v f → (∀ a, a ∈ f → a ∈ f0) → RepD K ct (frozen G H f0) H d.freeze v []
  | .non, _, _, ⟨h, _⟩, _ => ⟨h, rfl⟩
  | .bl _, _, _, ⟨h, _⟩, _ => ⟨h, rfl⟩
  | .int _, _, _, ⟨h, _⟩, _ => ⟨h, rfl⟩
  | .str _, _, _, ⟨h, _⟩, _ => ⟨h, rfl⟩
  | .tup _, _, _, ⟨a, xs, e, s, r⟩, k => ⟨a, xs, e, le.sqT s, RepL.frz le r k⟩
  | .lst false _, _, _, ⟨e0, a, xs, e, s, r⟩, k => ⟨rfl, a, xs, e, le.sqL s, RepL.frz le r (fun _ h => by cases h)⟩
  | .lst true _, _, _, ⟨a, xs, f, e, e0, s, r⟩, k => ⟨rfl, a, xs, e, .inl (.inl (by rw [show frozen G H f0 a = H a from if_pos (k a (by rw [e0]; exact List.mem_cons_self))]; exact s)), RepL.frz le r (fun b h => k b (by rw [e0]; exact List.mem_cons_of_mem _ h))⟩
  | .dct false ks l, _, _, ⟨e0, a, xs, e, s, ll, r⟩, k => ⟨rfl, a, xs, e, le.rd _ _ s, by rw [ll, D.freezeL_length], RepL.frz le r (fun _ h => by cases h)⟩
  | .dct true ks l, _, _, ⟨a, xs, f, e, e0, s, ll, r⟩, k => ⟨rfl, a, xs, e, .inl (by rw [show frozen G H f0 a = H a from if_pos (k a (by rw [e0]; exact List.mem_cons_self))]; exact s), by rw [ll, D.freezeL_length], RepL.frz le r (fun b h => k b (by rw [e0]; exact List.mem_cons_of_mem _ h))⟩
  | .ins false c fs l, _, _, ⟨e0, a, C, dx, xs, e, cc, s, ll, r⟩, k => ⟨rfl, a, C, dx, xs, e, cc, le.ins _ _ _ _ s, by rw [ll, D.freezeL_length], RepL.frz le r (fun _ h => by cases h)⟩
  | .ins true c fs l, _, _, ⟨a, C, dx, xs, f, e, e0, cc, s, ll, r⟩, k => ⟨rfl, a, C, dx, xs, e, cc, by rw [show frozen G H f0 a = H a from if_pos (k a (by rw [e0]; exact List.mem_cons_self))]; exact s, by rw [ll, D.freezeL_length], RepL.frz le r (fun b h => k b (by rw [e0]; exact List.mem_cons_of_mem _ h))⟩
  | .exn c fs l, _, _, ⟨e0, a, C, d, xs, e, cc, s, s2, ll, r⟩, k => ⟨rfl, a, C, d, xs, e, cc, le.rd _ _ s, le.xd s2, by rw [ll, D.freezeL_length], RepL.frz le r (fun _ h => by cases h)⟩
theorem RepL.frz {G H : Hp} {f0 : List Addr} (le : Le G (frozen G H f0)) : ∀ {ds : List D} {vs : List V} {f : List Addr}, RepL K ct G H ds vs f → (∀ a, a ∈ f → a ∈ f0) → RepL K ct (frozen G H f0) H (D.freezeL ds) vs []
  | [], _, _, ⟨h, _⟩, _ => ⟨h, rfl⟩
  | d :: ds, _, _, ⟨v, vs, f, g, e, e0, r, rs⟩, k => ⟨v, vs, [], [], e, rfl, RepD.frz le r fun a m => k a (by rw [e0]; exact List.mem_append_left _ m), RepL.frz le rs fun a m => k a (by rw [e0]; exact List.mem_append_right _ m)⟩
theorem D.freezeL_length : ∀ ds : List D, (D.freezeL ds).length = ds.length
  | [] => rfl
  | d :: ds => by show (D.freezeL ds).length + 1 = ds.length + 1; rw [D.freezeL_length ds]
end
mutual
theorem D.freeze_fz : ∀ d : D, d.fz = true → d.freeze = d
  | .non, _ => rfl
  | .bl _, _ => rfl
  | .int _, _ => rfl
  | .str _, _ => rfl
  | .tup l, h => by show D.tup (D.freezeL l) = _; rw [D.freezeL_fz l h]
  | .lst m l, h => by
    have h' : (!m && D.fzL l) = true := h
    rw [Bool.and_eq_true] at h'
    have e : m = false := by simpa using h'.1
    show D.lst false (D.freezeL l) = _
    rw [D.freezeL_fz l h'.2, e]
  | .dct m ks l, h => by
    have h' : (!m && D.fzL l) = true := h
    rw [Bool.and_eq_true] at h'
    have e : m = false := by simpa using h'.1
    show D.dct false ks (D.freezeL l) = _
    rw [D.freezeL_fz l h'.2, e]
  | .ins m c fs l, h => by
    have h' : (!m && D.fzL l) = true := h
    rw [Bool.and_eq_true] at h'
    have e : m = false := by simpa using h'.1
    show D.ins false c fs (D.freezeL l) = _
    rw [D.freezeL_fz l h'.2, e]
  | .exn c fs l, h => by show D.exn c fs (D.freezeL l) = _; rw [D.freezeL_fz l h]
theorem D.freezeL_fz : ∀ l : List D, D.fzL l = true → D.freezeL l = l
  | [], _ => rfl
  | d :: l, h => by
    have h' : (d.fz && D.fzL l) = true := h
    rw [Bool.and_eq_true] at h'
    show D.freeze d :: D.freezeL l = _
    rw [D.freeze_fz d h'.1, D.freezeL_fz l h'.2]
end
-- of which kind what is owned is
mutual
theorem RepD.kind {G H : Hp} : ∀ {d : D} {v : V} {f : List Addr}, RepD K ct G H d v f → ∀ a, a ∈ f → (∃ xs, H a = some (.lst xs)) ∨ (∃ kv, H a = some (.dK kv)) ∨ ∃ C dx fs, H a = some (.ins C dx fs)
  | .non, _, _, ⟨_, e⟩, a, m => by rw [e] at m; cases m
  | .bl _, _, _, ⟨_, e⟩, a, m => by rw [e] at m; cases m
  | .int _, _, _, ⟨_, e⟩, a, m => by rw [e] at m; cases m
  | .str _, _, _, ⟨_, e⟩, a, m => by rw [e] at m; cases m
  | .tup _, _, _, ⟨_, xs, _, _, r⟩, a, m => RepL.kind r a m
  | .lst false _, _, _, ⟨e, _⟩, a, m => by rw [e] at m; cases m
  | .lst true _, _, _, ⟨b, xs, f, e, e0, s, r⟩, a, m => by
    rw [e0] at m
    rcases List.mem_cons.mp m with rfl | m
    · exact .inl ⟨_, s⟩
    · exact RepL.kind r a m
  | .dct false _ _, _, _, ⟨e, _⟩, a, m => by rw [e] at m; cases m
  | .dct true _ _, _, _, ⟨b, xs, f, e, e0, s, l, r⟩, a, m => by
    rw [e0] at m
    rcases List.mem_cons.mp m with rfl | m
    · exact .inr (.inl ⟨_, s⟩)
    · exact RepL.kind r a m
  | .ins false _ _ _, _, _, ⟨e, _⟩, a, m => by rw [e] at m; cases m
  | .ins true _ _ _, _, _, ⟨b, C, dx, xs, f, e, e0, c, s, l, r⟩, a, m => by
    rw [e0] at m
    rcases List.mem_cons.mp m with rfl | m
    · exact .inr (.inr ⟨_, _, _, s⟩)
    · exact RepL.kind r a m
  | .exn _ _ _, _, _, ⟨e, _⟩, a, m => by rw [e] at m; cases m
theorem RepL.kind {G H : Hp} : ∀ {ds : List D} {vs : List V} {f : List Addr}, RepL K ct G H ds vs f → ∀ a, a ∈ f → (∃ xs, H a = some (.lst xs)) ∨ (∃ kv, H a = some (.dK kv)) ∨ ∃ C dx fs, H a = some (.ins C dx fs)
  | [], _, _, ⟨_, e⟩, a, m => by rw [e] at m; cases m
  | d :: ds, _, _, ⟨v, vs, f, g, e, e0, r, rs⟩, a, m => by
    rw [e0] at m
    rcases List.mem_append.mp m with m | m
    · exact RepD.kind r a m
    · exact RepL.kind rs a m
end
-- what is clean leans on tuples alone
mutual
theorem RepD.cleanMono {G H G' : Hp} (x : ∀ a xs, SqT K G a xs → SqT K G' a xs) : ∀ {d : D} {v : V} {f : List Addr}, RepD K ct G H d v f → d.clean = true → RepD K ct G' H d v f
  | .non, _, _, h, _ => h
  | .bl _, _, _, h, _ => h
  | .int _, _, _, h, _ => h
  | .str _, _, _, h, _ => h
  | .tup _, _, _, ⟨a, xs, e, s, r⟩, k => ⟨a, xs, e, x _ _ s, RepL.cleanMono x r k⟩
  | .lst false _, _, _, _, k => by cases k
  | .lst true _, _, _, ⟨a, xs, f, e, e0, s, r⟩, k => ⟨a, xs, f, e, e0, s, RepL.cleanMono x r k⟩
  | .dct false _ _, _, _, _, k => by cases k
  | .dct true _ _, _, _, ⟨a, xs, f, e, e0, s, l, r⟩, k => ⟨a, xs, f, e, e0, s, l, RepL.cleanMono x r k⟩
  | .ins false _ _ _, _, _, _, k => by cases k
  | .ins true _ _ _, _, _, ⟨a, C, dx, xs, f, e, e0, c, s, l, r⟩, k => ⟨a, C, dx, xs, f, e, e0, c, s, l, RepL.cleanMono x r k⟩
  | .exn _ _ _, _, _, _, k => by cases k
theorem RepL.cleanMono {G H G' : Hp} (x : ∀ a xs, SqT K G a xs → SqT K G' a xs) : ∀ {ds : List D} {vs : List V} {f : List Addr}, RepL K ct G H ds vs f → D.cleanL ds = true → RepL K ct G' H ds vs f
  | [], _, _, h, _ => h
  | d :: ds, _, _, ⟨v, vs, f, g, e, e0, r, rs⟩, k => by
    have k' : (d.clean && D.cleanL ds) = true := k
    rw [Bool.and_eq_true] at k'
    exact ⟨v, vs, f, g, e, e0, RepD.cleanMono x r k'.1, RepL.cleanMono x rs k'.2⟩
end

/-! ### slots -/
abbrev Env := List (Option D)
def RepS (K : PySem.W.Frag) (ct : Str → Option Addr) (G H : Hp) : Env → L2.St → List Addr → Prop
  | [], σ, fs => σ = [] ∧ fs = []
  | none :: α, σ, fs => ∃ x r, σ = x :: r ∧ RepS K ct G H α r fs
  | some d :: α, σ, fs => ∃ v r f g, σ = some v :: r ∧ fs = f ++ g ∧ RepD K ct G H d v f ∧ RepS K ct G H α r g
theorem RepS.mono {G H G' H' : Hp} (x : Le G G') : ∀ {α : Env} {σ : L2.St} {f : List Addr}, RepS K ct G H α σ f → (∀ a, a ∈ f → H' a = H a) → RepS K ct G' H' α σ f
  | [], _, _, h, _ => h
  | none :: α, _, _, ⟨y, r, e, h⟩, k => ⟨y, r, e, RepS.mono x h k⟩
  | some d :: α, _, _, ⟨v, r, f, g, e, e0, h, hs⟩, k => ⟨v, r, f, g, e, e0, h.mono x fun a m => k a (by rw [e0]; exact List.mem_append_left _ m), RepS.mono x hs fun a m => k a (by rw [e0]; exact List.mem_append_right _ m)⟩
theorem RepS.length {G H : Hp} : ∀ {α : Env} {σ : L2.St} {f : List Addr}, RepS K ct G H α σ f → σ.length = α.length
  | [], _, _, ⟨h, _⟩ => by rw [h]; rfl
  | none :: α, _, _, ⟨y, r, e, h⟩ => by rw [e, List.length_cons, List.length_cons, RepS.length h]
  | some d :: α, _, _, ⟨v, r, f, g, e, e0, h, hs⟩ => by rw [e, List.length_cons, List.length_cons, RepS.length hs]
/-- slot i: its value, and what stands beside -/
theorem RepS.at {G H : Hp} : ∀ {α : Env} {σ : L2.St} {fs : List Addr} {i : Nat} {d : D}, RepS K ct G H α σ fs → α[i]? = some (some d) →
    ∃ v fa f fb, σ[i]? = some (some v) ∧ fs = fa ++ f ++ fb ∧ RepD K ct G H d v f ∧
      ∀ G' H' d2 f2, Le G G' → (∀ a, a ∈ fa ++ fb → H' a = H a) → RepD K ct G' H' d2 v f2 → RepS K ct G' H' (α.set i (some d2)) σ (fa ++ f2 ++ fb)
  | [], _, _, _, _, _, h => by simp at h
  | none :: α, _, _, 0, _, _, h => by simp at h
  | none :: α, _, _, i + 1, d, ⟨y, r, e, hs⟩, h => by
    obtain ⟨v, fa, f, fb, h1, h2, h3, h4⟩ := RepS.at (i := i) hs (by simpa using h)
    exact ⟨v, fa, f, fb, by rw [e]; simpa using h1, h2, h3, fun G' H' d2 f2 le k q => ⟨y, r, e, h4 G' H' d2 f2 le k q⟩⟩
  | some d :: α, _, _, 0, d', ⟨v, r, f, g, e, e0, h0, hs⟩, h => by
    have h' : d = d' := by simpa using h
    subst h'
    exact ⟨v, [], f, g, by rw [e]; rfl, by rw [e0]; rfl, h0, fun G' H' d2 f2 le k q => ⟨v, r, f2, g, e, rfl, q, hs.mono le fun a m => k a m⟩⟩
  | some d :: α, _, _, i + 1, d', ⟨v, r, f, g, e, e0, h0, hs⟩, h => by
    obtain ⟨v1, fa, f1, fb, h1, h2, h3, h4⟩ := RepS.at (i := i) hs (by simpa using h)
    refine ⟨v1, f ++ fa, f1, fb, by rw [e]; simpa using h1, by rw [e0, h2]; simp [List.append_assoc], h3, fun G' H' d2 f2 le k q => ?_⟩
    refine ⟨v, r, f, fa ++ f2 ++ fb, e, by simp [List.append_assoc], h0.mono le fun a m => k a (by simp [m]), h4 G' H' d2 f2 le (fun a m => k a ?_) q⟩
    rcases List.mem_append.mp m with z | z <;> simp [z]
/-- slot i emptied (its value moved out) -/
theorem RepS.out {G H : Hp} : ∀ {α : Env} {σ : L2.St} {fs : List Addr} {i : Nat} {d : D}, RepS K ct G H α σ fs → α[i]? = some (some d) →
    ∃ v fa f fb, σ[i]? = some (some v) ∧ fs = fa ++ f ++ fb ∧ RepD K ct G H d v f ∧ RepS K ct G H (α.set i none) σ (fa ++ fb)
  | [], _, _, _, _, _, h => by simp at h
  | none :: α, _, _, 0, _, _, h => by simp at h
  | none :: α, _, _, i + 1, d, ⟨y, r, e, hs⟩, h => by
    obtain ⟨v, fa, f, fb, h1, h2, h3, h4⟩ := RepS.out (i := i) hs (by simpa using h)
    exact ⟨v, fa, f, fb, by rw [e]; simpa using h1, h2, h3, y, r, e, h4⟩
  | some d :: α, _, _, 0, d', ⟨v, r, f, g, e, e0, h0, hs⟩, h => by
    have h' : d = d' := by simpa using h
    subst h'
    exact ⟨v, [], f, g, by rw [e]; rfl, by rw [e0]; rfl, h0, some v, r, e, hs⟩
  | some d :: α, _, _, i + 1, d', ⟨v, r, f, g, e, e0, h0, hs⟩, h => by
    obtain ⟨v1, fa, f1, fb, h1, h2, h3, h4⟩ := RepS.out (i := i) hs (by simpa using h)
    exact ⟨v1, f ++ fa, f1, fb, by rw [e]; simpa using h1, by rw [e0, h2]; simp [List.append_assoc], h3, v, r, f, fa ++ fb, e, by simp [List.append_assoc], h0, h4⟩
/-- a store into slot i: what stood there is let go -/
theorem RepS.put {G H : Hp} : ∀ {α : Env} {σ : L2.St} {fs : List Addr} {i : Nat} {d : D} {v : V} {f : List Addr}, RepS K ct G H α σ fs → RepD K ct G H d v f → i < α.length → (f ++ fs).Nodup →
    ∃ gs, (∀ a, a ∈ gs → a ∈ f ++ fs) ∧ gs.Nodup ∧ RepS K ct G H (α.set i (some d)) (σ.set i (some v)) gs
  | [], _, _, _, _, _, _, _, _, h, _ => by simp at h
  | none :: α, _, fs, 0, d, v, f, ⟨y, r, e, hs⟩, hd, h, nd => ⟨f ++ fs, fun a m => m, nd, v, r, f, fs, by rw [e]; rfl, rfl, hd, hs⟩
  | none :: α, _, fs, i + 1, d, v, f, ⟨y, r, e, hs⟩, hd, h, nd => by
    obtain ⟨gs, h1, h2, h3⟩ := RepS.put (i := i) hs hd (by simpa using h) nd
    exact ⟨gs, h1, h2, y, _, by rw [e]; rfl, h3⟩
  | some d :: α, _, _, 0, d', v', f', ⟨v, r, f, g, e, e0, h0, hs⟩, hd, h, nd => by
    subst e0
    have nd' := List.nodup_append.mp nd
    have ng := List.nodup_append.mp nd'.2.1
    refine ⟨f' ++ g, fun a m => ?_, List.nodup_append.mpr ⟨nd'.1, ng.2.1, fun a m b m' q => nd'.2.2 a m b (List.mem_append_right _ m') q⟩, v', r, f', g, by rw [e]; rfl, rfl, hd, hs⟩
    rcases List.mem_append.mp m with z | z
    · exact List.mem_append_left _ z
    · exact List.mem_append_right _ (List.mem_append_right _ z)
  | some d :: α, _, _, i + 1, d', v', f', ⟨v, r, f, g, e, e0, h0, hs⟩, hd, h, nd => by
    subst e0
    have nd' := List.nodup_append.mp nd
    have ng := List.nodup_append.mp nd'.2.1
    obtain ⟨gs, h1, h2, h3⟩ := RepS.put (i := i) hs hd (by simpa using h) (List.nodup_append.mpr ⟨nd'.1, ng.2.1, fun a m b m' q => nd'.2.2 a m b (List.mem_append_right _ m') q⟩)
    refine ⟨f ++ gs, fun a m => ?_, List.nodup_append.mpr ⟨ng.1, h2, fun a m b m' q => ?_⟩, v, _, f, gs, by rw [e]; rfl, rfl, h0, h3⟩
    · rcases List.mem_append.mp m with z | z
      · exact List.mem_append_right _ (List.mem_append_left _ z)
      · rcases List.mem_append.mp (h1 a z) with q | q
        · exact List.mem_append_left _ q
        · exact List.mem_append_right _ (List.mem_append_right _ q)
    · subst q
      rcases List.mem_append.mp (h1 a m') with q | q
      · exact nd'.2.2 a q a (List.mem_append_left _ m) rfl
      · exact ng.2.2 a m a q rfl
end LD
namespace LD
open PySem PySem.Spec PyProof.Rows L2
variable {K : PySem.W.Frag} {ct : Str → Option Addr}

/-! ### the syntax -/
inductive Cst where
  | non | bl (b : Bool) | int (i : Int) | str (s : Str)
def Cst.v : Cst → V
  | .non => .non | .bl b => .bl b | .int i => .int i | .str s => .str s
def Cst.d : Cst → D
  | .non => .non | .bl b => .bl b | .int i => .int i | .str s => .str s

/-- what may go wrong in between -/
inductive R1 (β : Type) where
  | ok (a : β) | exc (x : D) | bad
def R1.bind {β γ : Type} : R1 β → (β → R1 γ) → R1 γ
  | .ok a, f => f a
  | .exc x, _ => .exc x
  | .bad, _ => .bad
/-- what a call gives: its value, what its arguments are then -/
inductive RF where
  | ok (r : D) (fin : List (Option D)) | exc (x : D) (fin : List (Option D)) | bad

inductive Pat where
  | one (i : Nat) | tup (ps : List Pat)

/-- operations on values: names -/
inductive POp where
  | add | sub | mul | mod | fdiv | pow | shl | shr | band | neg
  | eq | ne | lt | le | gt | ge | isNon | notNon | isB | notB
  | in_ | notin | ix | sl (lo hi : Bool) | slB
  | fld (f : Str)
  | len | sum | all | any | abs | max2 | min2 | maxL | minL | maxD | minD | sorted | int_ | str_ | list_ | dict_ | isT (t : String) | isC (cs : List Str)
  | rev | join | split | partition | startsw | endsw | ljust | index | rngL1 | get1 | get2 | rngL2 | lenset
  | dnew | dsp (ks : List Key) | dkv | count | slr
  | rep
inductive IOp where
  | lst | tup | enum | zip | rng1 | rng2 | rng3 | revL | revR1 | str | keys | items | vals

/-- a builtin's type: of its methods -/
inductive Ty where
  | list | dict | str
def Ty.n : Ty → String
  | .list => "list" | .dict => "dict" | .str => "str"
mutual
inductive E where
  | c (c : Cst) | v (i : Nat) | brw (i : Nat) (e : E) | frz (e : E)
  | prim (o : POp) (es : EL)
  | pm (T : Ty) (o : POp) (r : E) (es : EL)
  | tup (es : EL) | lst (es : EL)
  | and_ (a b : E) | or_ (a b : E) | not_ (a : E) | ife (c : B) (a b : E)
  | chain (a b c : E)
  | call (f : Str) (dvs : List Cst) (es : EL)
  | meth (m : Str) (dvs : List Cst) (r : E) (es : EL)
  | make (c f : Str) (dvs : List Cst) (es : EL)
  | lc (own : List Nat) (p : Pat) (o : IOp) (es : EL) (b : B) (e : E)
inductive EL where
  | nil | cons (e : E) (es : EL)
inductive B where
  | tt | e (e : E) | and_ (a b : B) | or_ (a b : B) | not_ (a : B)
end

/-! ### what is asked of the operations: their readings, their answers on data -/
/-- walks over a dict: the dict is locked while the walk lasts -/
def IOp.dw : IOp → Bool
  | .keys | .items | .vals => true
  | _ => false
def NoFrz (z : Hp) (d : Addr) : Prop := ∀ o u, z d ≠ some (.frz o u)
def Lk (z G H H' : Hp) : Prop := ∃ d od kvs, NoFrz z d ∧ G d = some (.dK kvs) ∧ H d = some (.dK kvs) ∧ H' = upd H d (.frz od (.dK kvs))
def unl (z : Hp) (f : Hp → Prop) (H : Hp) : Prop := f H ∨ ∃ d od u, H d = some (.frz od u) ∧ NoFrz z d ∧ f (upd H d u)
def unlB (b : Bool) (z : Hp) (f : Hp → Prop) : Hp → Prop := match b with
  | true => unl z f
  | false => f
theorem unlB.of {b : Bool} {z : Hp} {f : Hp → Prop} {H : Hp} (h : f H) : unlB b z f H := by
  cases b
  · exact h
  · exact .inl h
def tUnlE (b : Bool) (z : Hp) (t : TE) : TE := fun σ H Q => t σ H fun v H' => unlB b z (Q v) H'
def unlk (b : Bool) (z : Hp) (D : Ends) : Ends := ⟨fun σ' H' => unlB b z (D.nx σ') H', fun v H' => unlB b z (D.rt v) H', fun σ' H' => unlB b z (D.bk σ') H', fun σ' H' => unlB b z (D.ct σ') H'⟩
def tUnl (b : Bool) (z : Hp) (t : TS) : TS := fun D σ H => t (unlk b z D) σ H
structure Ops (K : PySem.W.Frag) (ct : Str → Option Addr) where
  z : Hp
  r : POp → List V → Hp → VK → Prop
  f : POp → List D → Option D
  ok : ∀ (o : POp) (G H : Hp) (ds : List D) (vs : List V) (fs : List Addr) (d : D), WS G H fs → RepL K ct G H ds vs fs → f o ds = some d → ∀ Q : VK, (∀ v G' H' fp, XT G H fs G' H' fp → RepD K ct G' H' d v fp → Q v H') → r o vs H Q
  ri : IOp → List V → Hp → (It → Hp → Prop) → Prop
  fi : IOp → List D → Option (List D)
  oki : ∀ (o : IOp) (G H : Hp) (ds : List D) (vs : List V) (items : List D), WS G H [] → RepL K ct G H ds vs [] → fi o ds = some items → ∀ R : It → Hp → Prop,
    (∀ J G' H', (XT G H [] G' H' [] ∨ (o.dw = true ∧ G' = G ∧ Lk z G H H')) → (∀ G1 H1 fs, WS G1 H1 fs → (∀ a, G' a ≠ none → G1 a = G' a) → (∀ a, G' a ≠ none → H1 a = H' a) → (∀ i, i < items.length → J.go i H1 ∧ ∀ x H2, J.yld i H1 x H2 → ∃ G2 d, items[i]? = some d ∧ XT G1 H1 [] G2 H2 [] ∧ RepD K ct G2 H2 d x []) ∧ (∀ i, items.length ≤ i → J.stop i H1)) → R J H') → ri o vs H R

/-! ### the interpreter -/
/-- the program: what a call of a def gives; a class's methods -/
structure Pg where
  f : POp → List D → Option D
  fi : IOp → List D → Option (List D)
  cal : Str → List D → RF
  mt : Str → Str → Option Str
  cs : List Str
  sx : Str → Str → Option Bool := fun _ _ => none
mutual
def asgP : Pat → D → Env → Option Env
  | .one i, d, α => if i < α.length then some (α.set i (some d)) else none
  | .tup ps, .tup l, α => asgPs ps l α
  | .tup ps, .lst _ l, α => asgPs ps l α
  | .tup _, _, _ => none
def asgPs : List Pat → List D → Env → Option Env
  | [], [], α => some α
  | p :: ps, d :: ds, α => (asgP p d α).bind (asgPs ps ds)
  | _, _, _ => none
end
mutual
def Pat.slots : Pat → List Nat
  | .one i => [i]
  | .tup ps => Pat.slotsL ps
def Pat.slotsL : List Pat → List Nat
  | [] => []
  | p :: ps => p.slots ++ Pat.slotsL ps
end
def wipeE (α : Env) : List Nat → Env
  | [] => α
  | i :: r => (wipeE α r).set i none
def lim : Nat := 1000000
/-- a comprehension's turns -/
def lcGo (f : D → R1 (Option D)) : List D → List D → R1 D
  | [], acc => .ok (.lst true acc)
  | d :: r, acc => match f d with
    | .ok (some x) => lcGo f r (acc ++ [x])
    | .ok none => lcGo f r acc
    | _ => .bad
def clsOf : D → Option Str
  | .ins _ c _ _ => some c
  | _ => none
def noField (m : Str) : D → Bool
  | .ins _ _ fs _ => !fs.contains m
  | _ => false
def tyD : Ty → D → Bool
  | .list, .lst _ _ => true
  | .dict, .dct _ _ _ => true
  | .str, .str _ => true
  | _, _ => false
def RF.val : RF → R1 D
  | .ok r _ => .ok r
  | .exc x _ => .exc x
  | .bad => .bad
def RF.made : RF → R1 D
  | .ok .non (some d :: _) => .ok d
  | .exc x _ => .exc x
  | _ => .bad
/-- a <= b <= c -/
def chLe2 (j : Int) : D → R1 D
  | .int l => .ok (.bl (decide (j ≤ l)))
  | _ => .bad
def chLe1 (c : R1 D) (i : Int) : D → R1 D
  | .int j => if i ≤ j then c.bind (chLe2 j) else .ok (.bl false)
  | _ => .bad
def chLe (b c : R1 D) : D → R1 D
  | .int i => b.bind (chLe1 c i)
  | _ => .bad
mutual
def evE (P : Pg) : E → Env → R1 D
  | .c c, _ => .ok c.d
  | .v i, α => match α[i]? with
    | some (some d) => if d.fz = true then .ok d else .bad
    | _ => .bad
  | .brw i e, α => match α[i]? with
    | some (some d) => match evE P e (α.set i (some d.freeze)) with
      | .ok r => if r.clean = true then .ok r else .bad
      | .exc x => if x.clean = true then .exc x else .bad
      | .bad => .bad
    | _ => .bad
  | .frz e, α => (evE P e α).bind fun d => .ok d.freeze
  | .prim o es, α => (evL P es α).bind fun ds => match P.f o ds with
    | some d => .ok d
    | none => .bad
  | .pm T o r es, α => (evE P r α).bind fun d => if tyD T d = true then (evL P es α).bind fun ds => match P.f o (d :: ds) with
    | some d => .ok d
    | none => .bad
    else .bad
  | .tup es, α => (evL P es α).bind fun ds => if ds.length < lim then .ok (.tup ds) else .bad
  | .lst es, α => (evL P es α).bind fun ds => if ds.length < lim then .ok (.lst true ds) else .bad
  | .and_ a b, α => (evE P a α).bind fun d => match d with
    | .bl true => evE P b α
    | .bl false => .ok (.bl false)
    | _ => .bad
  | .or_ a b, α => (evE P a α).bind fun d => match d with
    | .bl false => evE P b α
    | .bl true => .ok (.bl true)
    | _ => .bad
  | .not_ a, α => (evE P a α).bind fun d => match d with
    | .bl k => .ok (.bl (!k))
    | _ => .bad
  | .ife c a b, α => (evB P c α).bind fun k => if k = true then evE P a α else evE P b α
  | .chain a b c, α => (evE P a α).bind (chLe (evE P b α) (evE P c α))
  | .call f dvs es, α => (evL P es α).bind fun ds => (P.cal f (ds ++ dvs.map Cst.d)).val
  | .meth m dvs r es, α => (evE P r α).bind fun d => match clsOf d with
    | none => .bad
    | some c => if noField m d = true then match P.mt c m with
      | none => .bad
      | some f => (evL P es α).bind fun ds => (P.cal f (d :: (ds ++ dvs.map Cst.d))).val else .bad
  | .make c f dvs es, α => if P.cs.contains c = true then (evL P es α).bind fun ds => (P.cal f (.ins true c [] [] :: (ds ++ dvs.map Cst.d))).made else .bad
  | .lc own p o es b e, α => if p.slots.all own.contains = true then (evL P es α).bind fun ds => match P.fi o (D.freezeL ds) with
    | none => .bad
    | some items => if items.length < lim then lcGo (fun d => match asgP p d (wipeE α own) with
        | none => .bad
        | some α1 => (evB P b α1).bind fun k => if k = true then (evE P e α1).bind fun x => .ok (some x) else .ok none) items [] else .bad
    else .bad
def evL (P : Pg) : EL → Env → R1 (List D)
  | .nil, _ => .ok []
  | .cons e es, α => (evE P e α).bind fun d => (evL P es α).bind fun ds => .ok (d :: ds)
def evB (P : Pg) : B → Env → R1 Bool
  | .tt, _ => .ok true
  | .e e, α => (evE P e α).bind fun d => match d with
    | .bl k => .ok k
    | _ => .bad
  | .and_ a b, α => (evB P a α).bind fun k => if k = true then evB P b α else .ok false
  | .or_ a b, α => (evB P a α).bind fun k => if k = true then .ok true else evB P b α
  | .not_ a, α => (evB P a α).bind fun k => .ok (!k)
end

/-! ### the readings -/
/-- an exception -/
def RepX (K : PySem.W.Frag) (ct : Str → Option Addr) (G H : Hp) : D → Value → Option Addr → List Addr → Prop
  | .ins _ c [] [], cls, dx, fp => ∃ C, ct c = some C ∧ cls = .ref C ∧ dx = none ∧ fp = []
  | .ins _ c [f] [d], cls, dx, fp => ∃ C a v g, ct c = some C ∧ cls = .ref C ∧ dx = some a ∧ fp = a :: g ∧ H a = some (.xd [(f, v)]) ∧ RepD K ct G H d v g
  | _, _, _, _ => False
def RepF (K : PySem.W.Frag) (ct : Str → Option Addr) (G H : Hp) : List (Option D) → List V → List Addr → Prop
  | [], _, fs => fs = []
  | none :: α, vs, fs => ∃ x r, vs = x :: r ∧ RepF K ct G H α r fs
  | some d :: α, vs, fs => ∃ v r f g, vs = v :: r ∧ fs = f ++ g ∧ RepD K ct G H d v f ∧ RepF K ct G H α r g
/-- the promise of a def, by what the interpreter says of it -/
def spR (K : PySem.W.Frag) (ct : Str → Option Addr) (g : List D → RF) : Sp := fun vs H Q E => ∃ G ds fs, WS G H fs ∧ RepL K ct G H ds vs fs ∧ match g ds with
  | .ok r fin => ∀ v G' H' fs' fp, XT G H fs G' H' (fs' ++ fp) → RepF K ct G' H' fin vs fs' → RepD K ct G' H' r v fp → Q v H'
  | .exc x fin => ∀ cls dx G' H' fs' fp, XT G H fs G' H' (fs' ++ fp) → RepF K ct G' H' fin vs fs' → RepX K ct G' H' x cls dx fp → E cls dx H'
  | .bad => False
abbrev spI (K : PySem.W.Frag) (ct : Str → Option Addr) (cal : Str → List D → RF) (f : Str) : Sp := spR K ct (cal f)
mutual
def gP (K : PySem.W.Frag) : Pat → TG
  | .one i => gName i
  | .tup ps => fun v σ H Q => gTup K ps.length (gPs K ps) v σ H Q ∨ gLst K ps.length (gPs K ps) v σ H Q
def gPs (K : PySem.W.Frag) : List Pat → TGs
  | [] => gNil
  | p :: ps => gCons (gP K p) (gPs K ps)
end
abbrev W0 : WX := fun _ _ _ _ => False
/-- of that type (a locked dict, too) -/
def tyQ (K : PySem.W.Frag) (T : String) (x : V) (H : Hp) : Prop := match x with
  | .str _ => T = "str"
  | .ref p => (T = "list" ∧ ∃ xs, SqL K H p xs) ∨ (T = "dict" ∧ ∃ kvs, Rd H p (.dK kvs))
  | _ => False
/-- <= of ints -/
def leR : V → V → Hp → VK → Prop := fun x y H Q => ∃ i j, x = .int i ∧ y = .int j ∧ Q (.bl (decide (i ≤ j))) H
section
variable (O : Ops K ct) (P : Pg)
mutual
def semE : WX → E → TE
  | _, .c c => tC c.v
  | _, .v i => tVar i
  | W, .brw _ e => semE W e
  | W, .frz e => semE W e
  | W, .prim o es => fun σ H Q => semL W es σ H fun vs H1 => O.r o vs H1 Q
  | W, .pm T o r es => fun σ H Q => semE W r σ H fun x H1 => tyQ K T.n x H1 ∧ semL W es σ H1 fun vs H2 => O.r o (x :: vs) H2 Q
  | W, .tup es => tTup (semL W es)
  | W, .lst es => tLst (semL W es)
  | W, .and_ a b => tAndV (semE W a) (semE W b)
  | W, .or_ a b => tOrV (semE W a) (semE W b)
  | W, .not_ a => tNotV (semE W a)
  | W, .ife c a b => tIf (semB W c) (semE W a) (semE W b)
  | W, .chain a b c => tChain leR leR (semE W a) (semE W b) (semE W c)
  | W, .call f dvs es => fun σ H Q => semL W es σ H fun vs H1 => spI K ct P.cal f (vs ++ dvs.map Cst.v) H1 Q (WE W σ)
  | W, .meth m dvs r es => fun σ H Q => semE W r σ H fun x H1 => ∃ a c C dx fl f, x = .ref a ∧ H1 a = some (.ins C dx fl) ∧ ct c = some C ∧ P.mt c m = some f ∧ fl.lookup m = none ∧
      semL W es σ H1 fun vs H2 => spI K ct P.cal f (x :: (vs ++ dvs.map Cst.v)) H2 Q (WE W σ)
  | W, .make c f dvs es => fun σ H Q => semL W es σ H fun vs H1 => ∃ C, ct c = some C ∧ ∀ x dx, H1 x = none → H1 dx = none → dx ≠ x →
      spI K ct P.cal f (.ref x :: (vs ++ dvs.map Cst.v)) (upd (upd H1 dx (.own x)) x (.ins C dx [])) (fun v H2 => v = .non ∧ Q (.ref x) H2) (WE W σ)
  | W, .lc own p o es b e => tUnlE o.dw O.z (tLc (fun σ H R => semL W es σ H fun vs H1 => O.ri o vs H1 R) (gP K p) (semB W0 b) (semE W0 e) own)
def semL : WX → EL → TA
  | _, .nil => tNil
  | W, .cons e es => tCons (semE W e) (semL W es)
def semB : WX → B → TT
  | _, .tt => tYes
  | W, .e e => tTest (semE W e)
  | W, .and_ a b => tAnd (semB W a) (semB W b)
  | W, .or_ a b => tOr (semB W a) (semB W b)
  | W, .not_ a => tNot (semB W a)
end
end
end LD
namespace LD
open PySem PySem.Spec PyProof.Rows L2
variable {K : PySem.W.Frag} {ct : Str → Option Addr} {O : Ops K ct} {P : Pg}

/-! ### what is said of an answer -/
def PoE (K : PySem.W.Frag) (ct : Str → Option Addr) (G H : Hp) (f0 : List Addr) (σ : L2.St) (W : WX) (Q : VK) : R1 D → Prop
  | .ok d => ∀ v G' H' fp, XT G H f0 G' H' fp → RepD K ct G' H' d v fp → Q v H'
  | .exc x => ∀ cls dx G' H' fp, XT G H f0 G' H' fp → RepX K ct G' H' x cls dx fp → W cls dx σ H'
  | .bad => False
def PoL (K : PySem.W.Frag) (ct : Str → Option Addr) (G H : Hp) (f0 : List Addr) (σ : L2.St) (W : WX) (Q : List V → Hp → Prop) : R1 (List D) → Prop
  | .ok ds => ∀ vs G' H' fp, XT G H f0 G' H' fp → RepL K ct G' H' ds vs fp → Q vs H'
  | .exc x => ∀ cls dx G' H' fp, XT G H f0 G' H' fp → RepX K ct G' H' x cls dx fp → W cls dx σ H'
  | .bad => False
def PoB (K : PySem.W.Frag) (ct : Str → Option Addr) (G H : Hp) (f0 : List Addr) (σ : L2.St) (W : WX) (Q : Bool → Hp → Prop) : R1 Bool → Prop
  | .ok b => ∀ G' H', XT G H f0 G' H' [] → Q b H'
  | .exc x => ∀ cls dx G' H' fp, XT G H f0 G' H' fp → RepX K ct G' H' x cls dx fp → W cls dx σ H'
  | .bad => False
def SoE (K : PySem.W.Frag) (ct : Str → Option Addr) (te : TE) (W : WX) (α : Env) (out : R1 D) : Prop := ∀ G H σ fs Q, WS G H fs → RepS K ct G H α σ fs → PoE K ct G H [] σ W Q out → te σ H Q
def SoL (K : PySem.W.Frag) (ct : Str → Option Addr) (ta : TA) (W : WX) (α : Env) (out : R1 (List D)) : Prop := ∀ G H σ fs Q, WS G H fs → RepS K ct G H α σ fs → PoL K ct G H [] σ W Q out → ta σ H Q
def SoB (K : PySem.W.Frag) (ct : Str → Option Addr) (tt : TT) (W : WX) (α : Env) (out : R1 Bool) : Prop := ∀ G H σ fs Q, WS G H fs → RepS K ct G H α σ fs → PoB K ct G H [] σ W Q out → tt σ H Q

theorem stay {G H G1 H1 : Hp} {f1 fs : List Addr} {α : Env} {σ : L2.St} (x : XT G H [] G1 H1 f1) (w : WS G H fs) (r : RepS K ct G H α σ fs) : WS G1 H1 (f1 ++ fs) ∧ RepS K ct G1 H1 α σ fs :=
  ⟨(x.beside (r := fs) (fs := []) w).ws, r.mono x.le fun a m => x.fr a (w.hn a m) (by simp)⟩
theorem XT.nil_trans {G H G1 H1 G2 H2 : Hp} {f1 f2 f3 : List Addr} (x : XT G H [] G1 H1 f1) (y : XT G1 H1 f1 G2 H2 f2) (h : ∀ a, a ∈ f3 → a ∈ f2) (nd : f3.Nodup) : XT G H [] G2 H2 f3 := (x.trans y).drop h nd
theorem XT.two {G H G1 H1 G2 H2 : Hp} {f1 f2 : List Addr} (x : XT G H [] G1 H1 f1) (y : XT G1 H1 [] G2 H2 f2) : XT G H [] G2 H2 (f1 ++ f2) := by
  have z := y.besideL (r := f1) (by rw [List.append_nil]; exact x.ws)
  rw [List.append_nil] at z
  exact x.trans z
theorem XT.dropL {G H G' H' : Hp} {fs f1 f2 : List Addr} (x : XT G H fs G' H' (f1 ++ f2)) : XT G H fs G' H' f2 := x.drop (fun a m => List.mem_append_right _ m) (List.nodup_append.mp x.ws.nd).2.1
theorem XT.dropR {G H G' H' : Hp} {fs f1 f2 : List Addr} (x : XT G H fs G' H' (f1 ++ f2)) : XT G H fs G' H' f1 := x.drop (fun a m => List.mem_append_left _ m) (List.nodup_append.mp x.ws.nd).1
theorem XT.none {G H G' H' : Hp} {fs f1 : List Addr} (x : XT G H fs G' H' f1) : XT G H fs G' H' [] := x.drop (fun a m => by cases m) List.nodup_nil
theorem RepD.later {G H G' H' : Hp} {d : D} {v : V} {f g : List Addr} (r : RepD K ct G H d v f) (x : XT G H [] G' H' g) (w : WS G H f) : RepD K ct G' H' d v f := r.mono x.le fun a m => x.fr a (w.hn a m) (by simp)
theorem RepL.later {G H G' H' : Hp} {d : List D} {v : List V} {f g : List Addr} (r : RepL K ct G H d v f) (x : XT G H [] G' H' g) (w : WS G H f) : RepL K ct G' H' d v f := r.mono x.le fun a m => x.fr a (w.hn a m) (by simp)
theorem RepD.cst (G H : Hp) : ∀ c : Cst, RepD K ct G H c.d c.v []
  | .non => ⟨rfl, rfl⟩
  | .bl _ => ⟨rfl, rfl⟩
  | .int _ => ⟨rfl, rfl⟩
  | .str _ => ⟨rfl, rfl⟩
theorem RepL.csts (G H : Hp) : ∀ c : List Cst, RepL K ct G H (c.map Cst.d) (c.map Cst.v) []
  | [] => ⟨rfl, rfl⟩
  | c :: cs => ⟨_, _, [], [], rfl, rfl, RepD.cst G H c, RepL.csts G H cs⟩
/-- an earlier exception's way, from a later state -/
theorem po_exc {G H G1 H1 : Hp} {f1 : List Addr} {σ : L2.St} {W : WX} {x : D} (xt : XT G H [] G1 H1 f1) (h : ∀ cls dx G' H' fp, XT G H [] G' H' fp → RepX K ct G' H' x cls dx fp → W cls dx σ H') :
    ∀ cls dx G' H' fp, XT G1 H1 [] G' H' fp → RepX K ct G' H' x cls dx fp → W cls dx σ H' := fun cls dx G' H' fp y r => h cls dx G' H' fp ((xt.two y).dropL) r

theorem RepX.cleanMono {G H G' : Hp} (x : ∀ a xs, SqT K G a xs → SqT K G' a xs) {d : D} {cls : Value} {dx : Option Addr} {f : List Addr} (r : RepX K ct G H d cls dx f) (h : d.clean = true) : RepX K ct G' H d cls dx f := by
  unfold RepX at r ⊢
  split at r
  · exact r
  · rename_i m c ff dd
    obtain ⟨C, a, v, g, h1, h2, h3, h0, h4, h5⟩ := r
    have h' : (m && (dd.clean && true)) = true := h
    rw [Bool.and_true, Bool.and_eq_true] at h'
    exact ⟨C, a, v, g, h1, h2, h3, h0, h4, RepD.cleanMono x h5 h'.2⟩
  · exact r.elim

/-! ### case by case -/
theorem so_c {W : WX} {α : Env} {c : Cst} : SoE K ct (tC c.v) W α (.ok c.d) := fun G H σ fs Q w r p => p _ G H [] (XT.refl (WS.nil w.le)) (RepD.cst G H c)
theorem so_v {W : WX} {α : Env} {i : Nat} : SoE K ct (tVar i) W α (evE P (.v i) α) := by
  intro G H σ fs Q w r p
  have e : evE P (.v i) α = match α[i]? with
    | some (some d) => if d.fz = true then .ok d else .bad
    | _ => .bad := rfl
  rw [e] at p
  cases h : α[i]? with
  | none => rw [h] at p; exact p.elim
  | some o =>
    cases o with
    | none => rw [h] at p; exact p.elim
    | some d =>
      rw [h] at p
      by_cases hf : d.fz = true
      · obtain ⟨v, fa, f, fb, h1, h2, h3, h4⟩ := r.at h
        have p' : PoE K ct G H [] σ W Q (if d.fz = true then .ok d else .bad) := p
        rw [if_pos hf] at p'
        have e0 := h3.fz hf
        subst e0
        exact ⟨v, h1, p' v G H [] (XT.refl (WS.nil w.le)) h3⟩
      · have p' : PoE K ct G H [] σ W Q (if d.fz = true then .ok d else .bad) := p
        rw [if_neg hf] at p'
        exact p'.elim
def cut (G : Hp) (f : List Addr) : Hp := fun a => if a ∈ f then none else G a
theorem cut_in {G : Hp} {f : List Addr} {a : Addr} (h : a ∈ f) : cut G f a = none := if_pos h
theorem cut_out {G : Hp} {f : List Addr} {a : Addr} (h : a ∉ f) : cut G f a = G a := if_neg h
theorem so_brw {W : WX} {α : Env} {i : Nat} {e : E} {te : TE} (h : ∀ α', SoE K ct te W α' (evE P e α')) : SoE K ct te W α (evE P (.brw i e) α) := by
  intro G H σ fs Q w r p
  have e0 : evE P (.brw i e) α = match α[i]? with
    | some (some d) => match evE P e (α.set i (some d.freeze)) with
      | .ok r => if r.clean = true then .ok r else .bad
      | .exc x => if x.clean = true then .exc x else .bad
      | .bad => .bad
    | _ => .bad := rfl
  rw [e0] at p
  cases hi : α[i]? with
  | none => rw [hi] at p; exact p.elim
  | some o =>
    cases o with
    | none => rw [hi] at p; exact p.elim
    | some d =>
      rw [hi] at p
      obtain ⟨v0, fa, f, fb, h1, h2, h3, h4⟩ := r.at hi
      subst h2
      have w' : WS G H (f ++ (fa ++ fb)) := w.perm (by
        rw [List.append_assoc]
        exact (List.perm_append_comm_assoc fa f fb))
      have x1 := XT.frz w'
      have r1 : RepS K ct (frozen G H f) H (α.set i (some d.freeze)) σ (fa ++ [] ++ fb) := h4 _ _ _ _ x1.le (fun _ _ => rfl) (RepD.frz x1.le h3 fun a m => m)
      rw [List.append_nil] at r1
      refine h (α.set i (some d.freeze)) (frozen G H f) H σ (fa ++ fb) Q x1.ws r1 ?_
      -- back
      have back : ∀ G2 H2 fp, XT (frozen G H f) H [] G2 H2 fp → XT G H [] (cut G2 f) H2 fp ∧ ∀ a xs, SqT K G2 a xs → SqT K (cut G2 f) a xs := by
        intro G2 H2 fp x2
        have inf : ∀ a, a ∈ f → G2 a = H a := fun a m => by
          have q : frozen G H f a = H a := if_pos m
          rw [x2.eq a (by rw [q]; exact w'.hn a (List.mem_append_left _ m)), q]
        have lift : ∀ a o, cut G2 f a = some o → G2 a = some o := fun a o q => by
          by_cases m : a ∈ f
          · rw [cut_in m] at q; cases q
          · rw [cut_out m] at q; exact q
        refine ⟨⟨fun a k => ?_, ⟨⟨fun a u q => ?_, fun a C dx l q => x2.ws.le.ins a C dx l (lift _ _ q)⟩, x2.ws.nd, fun a m => ?_, x2.ws.hn⟩, fun a k n => x2.fr a k n, x2.dm, fun a k => ?_, fun a m => x2.fp a m⟩, fun a xs q => ?_⟩
        · have nf : a ∉ f := fun m => k (w'.gn a (List.mem_append_left _ m))
          have q : frozen G H f a = G a := if_neg nf
          rw [cut_out nf, x2.eq a (by rw [q]; exact k), q]
        · apply x2.ws.le.rd
          rcases q with q | ⟨ob, q⟩
          · exact .inl (lift _ _ q)
          · exact .inr ⟨ob, lift _ _ q⟩
        · by_cases m' : a ∈ f
          · exact cut_in m'
          · rw [cut_out m']; exact x2.ws.gn a m
        · by_cases m : a ∈ f
          · exact absurd (cut_in m) k
          · rw [cut_out m] at k
            rcases x2.nw a k with z | z | z
            · have q : frozen G H f a = G a := if_neg m
              rw [q] at z; exact .inl z
            · exact .inr (.inl z)
            · cases z
        · rcases q with q | q
          · by_cases m : a ∈ f
            · exfalso
              have e1 := inf a m
              rcases h3.kind a m with ⟨ys, z⟩ | ⟨kv, z⟩ | ⟨C, dx, l, z⟩ <;> (rcases q with q | ⟨ob, q⟩ <;> (rw [e1, z] at q; cases q))
            · refine .inl ?_
              rcases q with q | ⟨ob, q⟩
              · exact .inl (by rw [cut_out m]; exact q)
              · exact .inr ⟨ob, by rw [cut_out m]; exact q⟩
          · exact .inr q
      cases ho : evE P e (α.set i (some d.freeze)) with
      | bad =>
        have p' : PoE K ct G H [] σ W Q (match evE P e (α.set i (some d.freeze)) with
            | .ok r => if r.clean = true then .ok r else .bad
            | .exc x => if x.clean = true then .exc x else .bad
            | .bad => .bad) := p
        rw [ho] at p'
        exact p'
      | ok rr =>
        have p' : PoE K ct G H [] σ W Q (match evE P e (α.set i (some d.freeze)) with
            | .ok r => if r.clean = true then .ok r else .bad
            | .exc x => if x.clean = true then .exc x else .bad
            | .bad => .bad) := p
        rw [ho] at p'
        by_cases hc : rr.clean = true
        · have p2 : PoE K ct G H [] σ W Q (if rr.clean = true then .ok rr else .bad) := p'
          rw [if_pos hc] at p2
          intro v G2 H2 fp x2 rd
          obtain ⟨b1, b2⟩ := back G2 H2 fp x2
          exact p2 v _ H2 fp b1 (RepD.cleanMono b2 rd hc)
        · have p2 : PoE K ct G H [] σ W Q (if rr.clean = true then .ok rr else .bad) := p'
          rw [if_neg hc] at p2
          exact p2.elim
      | exc x =>
        have p' : PoE K ct G H [] σ W Q (match evE P e (α.set i (some d.freeze)) with
            | .ok r => if r.clean = true then .ok r else .bad
            | .exc x => if x.clean = true then .exc x else .bad
            | .bad => .bad) := p
        rw [ho] at p'
        by_cases hc : x.clean = true
        · have p2 : PoE K ct G H [] σ W Q (if x.clean = true then .exc x else .bad) := p'
          rw [if_pos hc] at p2
          intro cls dx G2 H2 fp x2 rd
          obtain ⟨b1, b2⟩ := back G2 H2 fp x2
          exact p2 cls dx _ H2 fp b1 (RepX.cleanMono b2 rd hc)
        · have p2 : PoE K ct G H [] σ W Q (if x.clean = true then .exc x else .bad) := p'
          rw [if_neg hc] at p2
          exact p2.elim
end LD
namespace LD
open PySem PySem.Spec PyProof.Rows L2
variable {K : PySem.W.Frag} {ct : Str → Option Addr} {O : Ops K ct} {P : Pg}

/-! ### one thing behind another -/
/-! ### a dict locked for a walk -/
theorem Lk.ws {z G H H' : Hp} {fs : List Addr} (k : Lk z G H H') (w : WS G H fs) : WS G H' fs := by
  obtain ⟨d, od, kvs, nf, hG, hH, rfl⟩ := k
  refine ⟨⟨fun a u r => ?_, fun a C dx l e => ?_⟩, w.nd, w.gn, fun a m => ?_⟩
  · by_cases e : a = d
    · subst e
      have r0 : u = .dK kvs := by
        rcases r with r | ⟨o, r⟩
        · rw [hG] at r; cases r; rfl
        · rw [hG] at r; cases r
      subst r0
      exact .inr ⟨od, upd_same⟩
    · rcases w.le.rd a u r with q | ⟨o, q⟩
      · exact .inl (by rw [upd_ne e]; exact q)
      · exact .inr ⟨o, by rw [upd_ne e]; exact q⟩
  · have : a ≠ d := fun q => by rw [q, hG] at e; cases e
    rw [upd_ne this]
    exact w.le.ins a C dx l e
  · by_cases e : a = d
    · rw [e, upd_same]; exact fun q => by cases q
    · rw [upd_ne e]; exact w.hn a m
theorem Lk.rs {z G H H' : Hp} {fs : List Addr} {α : Env} {σ : L2.St} (k : Lk z G H H') (w : WS G H fs) (r : RepS K ct G H α σ fs) : RepS K ct G H' α σ fs := by
  obtain ⟨d, od, kvs, nf, hG, hH, rfl⟩ := k
  refine r.mono (Le.refl G) fun a m => upd_ne fun q => ?_
  have := w.gn a m
  rw [q, hG] at this
  cases this
/-- .. and let go -/
theorem lk_back {G H G7 H7 : Hp} {fs fs7 : List Addr} {d : Addr} {od : Obj} {kvs : List (Key × V)} (hG : G d = some (.dK kvs)) (hH : H d = some (.dK kvs)) (w : WS G H fs) (x : XT G (upd H d (.frz od (.dK kvs))) fs G7 H7 fs7) :
    H7 d = some (.frz od (.dK kvs)) ∧ XT G H fs G7 (upd H7 d (.dK kvs)) fs7 ∧ (∀ a, a ∈ fs7 → upd H7 d (.dK kvs) a = H7 a) := by
  have nd : d ∉ fs := fun m => by
    have := w.gn d m
    rw [hG] at this
    cases this
  have e7 : G7 d = some (.dK kvs) := by rw [x.eq d (by rw [hG]; exact fun q => by cases q)]; exact hG
  have n7 : ∀ a, a ∈ fs7 → a ≠ d := fun a m q => by
    have := x.ws.gn a m
    rw [q, e7] at this
    cases this
  have h7 : H7 d = some (.frz od (.dK kvs)) := by
    rw [x.fr d (by rw [upd_same]; exact fun q => by cases q) nd, upd_same]
  refine ⟨h7, ⟨x.eq, ⟨⟨fun a u r => ?_, fun a C dx l e => ?_⟩, x.ws.nd, x.ws.gn, fun a m => ?_⟩, fun a h n => ?_, fun a h => ?_, fun a h => ?_, fun a m => ?_⟩, fun a m => upd_ne (n7 a m)⟩
  · by_cases e : a = d
    · subst e
      have r0 : u = .dK kvs := by
        rcases r with r | ⟨o, r⟩
        · rw [e7] at r; cases r; rfl
        · rw [e7] at r; cases r
      subst r0
      exact .inl upd_same
    · rcases x.ws.le.rd a u r with q | ⟨o, q⟩
      · exact .inl (by rw [upd_ne e]; exact q)
      · exact .inr ⟨o, by rw [upd_ne e]; exact q⟩
  · have : a ≠ d := fun q => by rw [q, e7] at e; cases e
    rw [upd_ne this]
    exact x.ws.le.ins a C dx l e
  · rw [upd_ne (n7 a m)]; exact x.ws.hn a m
  · by_cases e : a = d
    · subst e; rw [upd_same, hH]
    · have := x.fr a (by rw [upd_ne e]; exact h) n
      rw [upd_ne e] at this
      rw [upd_ne e, this]
  · by_cases e : a = d
    · rw [e, upd_same]; exact fun q => by cases q
    · rw [upd_ne e]; exact x.dm a (by rw [upd_ne e]; exact h)
  · rcases x.nw a h with q | q | q
    · exact .inl q
    · by_cases e : a = d
      · rw [e, upd_same] at q; cases q
      · rw [upd_ne e] at q; exact .inr (.inl q)
    · exact .inr (.inr q)
  · rcases x.fp a m with q | q
    · by_cases e : a = d
      · rw [e, upd_same] at q; cases q
      · rw [upd_ne e] at q; exact .inl q
    · exact .inr q
theorem PoE.lock {z G H H' : Hp} {σ : L2.St} {W : WX} {Q : VK} {o : R1 D} (k : Lk z G H H') (w : WS G H []) (hx : ∀ x, o ≠ .exc x) {b : Bool} (hb : b = true) (p : PoE K ct G H [] σ W Q o) : PoE K ct G H' [] σ W (fun v H => unlB b z (Q v) H) o := by
  subst hb
  obtain ⟨d, od, kvs, nf, hG, hH, rfl⟩ := k
  cases o with
  | ok a =>
    intro v G7 H7 fp x r
    obtain ⟨h7, xb, ke⟩ := lk_back hG hH w x
    exact .inr ⟨d, od, _, h7, nf, p v G7 _ fp xb (r.mono (Le.refl G7) ke)⟩
  | exc x => exact absurd rfl (hx x)
  | bad => exact p
theorem PoE.unl {b : Bool} {z G H : Hp} {f : List Addr} {σ : L2.St} {W : WX} {Q : VK} {o : R1 D} (p : PoE K ct G H f σ W Q o) : PoE K ct G H f σ W (fun v H => unlB b z (Q v) H) o := by
  cases o with
  | ok a => exact fun v G7 H7 fp x r => unlB.of (p v G7 H7 fp x r)
  | exc x => exact p
  | bad => exact p
theorem lcGo_nx {f : D → R1 (Option D)} {x : D} : ∀ (l acc : List D), lcGo f l acc ≠ .exc x
  | [], acc, h => by cases h
  | d :: r, acc, h => by
    unfold lcGo at h
    split at h
    · exact lcGo_nx _ _ h
    · exact lcGo_nx _ _ h
    · cases h
theorem PoE.later {G H G1 H1 : Hp} {f0 f1 : List Addr} {σ : L2.St} {W : WX} {Q : VK} {o : R1 D} (x : XT G H f0 G1 H1 f1) (p : PoE K ct G H f0 σ W Q o) : PoE K ct G1 H1 f1 σ W Q o := by
  cases o with
  | ok d => exact fun v G' H' fp y r => p v G' H' fp (x.trans y) r
  | exc e => exact fun cls dx G' H' fp y r => p cls dx G' H' fp (x.trans y) r
  | bad => exact p
theorem PoL.later {G H G1 H1 : Hp} {f0 f1 : List Addr} {σ : L2.St} {W : WX} {Q : List V → Hp → Prop} {o : R1 (List D)} (x : XT G H f0 G1 H1 f1) (p : PoL K ct G H f0 σ W Q o) : PoL K ct G1 H1 f1 σ W Q o := by
  cases o with
  | ok d => exact fun v G' H' fp y r => p v G' H' fp (x.trans y) r
  | exc e => exact fun cls dx G' H' fp y r => p cls dx G' H' fp (x.trans y) r
  | bad => exact p
theorem PoB.later {G H G1 H1 : Hp} {f0 f1 : List Addr} {σ : L2.St} {W : WX} {Q : Bool → Hp → Prop} {o : R1 Bool} (x : XT G H f0 G1 H1 f1) (p : PoB K ct G H f0 σ W Q o) : PoB K ct G1 H1 f1 σ W Q o := by
  cases o with
  | ok d => exact fun G' H' y => p G' H' (x.trans y)
  | exc e => exact fun cls dx G' H' fp y r => p cls dx G' H' fp (x.trans y) r
  | bad => exact p
/-- nothing is owned on the way -/
theorem PoE.nil {G H : Hp} {f0 : List Addr} {σ : L2.St} {W : WX} {Q : VK} {o : R1 D} (w : WS G H f0) (p : PoE K ct G H f0 σ W Q o) : PoE K ct G H [] σ W Q o :=
  PoE.later ((XT.refl w).none) p
theorem PoL.nil {G H : Hp} {f0 : List Addr} {σ : L2.St} {W : WX} {Q : List V → Hp → Prop} {o : R1 (List D)} (w : WS G H f0) (p : PoL K ct G H f0 σ W Q o) : PoL K ct G H [] σ W Q o :=
  PoL.later ((XT.refl w).none) p
theorem PoB.nil {G H : Hp} {f0 : List Addr} {σ : L2.St} {W : WX} {Q : Bool → Hp → Prop} {o : R1 Bool} (w : WS G H f0) (p : PoB K ct G H f0 σ W Q o) : PoB K ct G H [] σ W Q o :=
  PoB.later ((XT.refl w).none) p
theorem so_bind {W : WX} {α : Env} {te : TE} {o : R1 D} {k : D → R1 D} {c : V → L2.St → Hp → VK → Prop} (h : SoE K ct te W α o)
    (hk : ∀ d, o = .ok d → ∀ G H σ fs v f Q, WS G H (f ++ fs) → RepS K ct G H α σ fs → RepD K ct G H d v f → PoE K ct G H f σ W Q (k d) → c v σ H Q) : SoE K ct (fun σ H Q => te σ H fun v H1 => c v σ H1 Q) W α (o.bind k) := by
  intro G H σ fs Q w r p
  cases ho : o with
  | ok d =>
    rw [ho] at p h
    refine h G H σ fs _ w r fun v G1 H1 f x rd => ?_
    obtain ⟨w1, r1⟩ := stay x w r
    exact hk d ho G1 H1 σ fs v f Q w1 r1 rd (PoE.later x p)
  | exc e =>
    rw [ho] at p h
    exact h G H σ fs _ w r p
  | bad => rw [ho] at p; exact p.elim
theorem so_bindL {W : WX} {α : Env} {te : TA} {o : R1 (List D)} {k : List D → R1 D} {c : List V → L2.St → Hp → VK → Prop} (h : SoL K ct te W α o)
    (hk : ∀ d, o = .ok d → ∀ G H σ fs v f Q, WS G H (f ++ fs) → RepS K ct G H α σ fs → RepL K ct G H d v f → PoE K ct G H f σ W Q (k d) → c v σ H Q) : SoE K ct (fun σ H Q => te σ H fun v H1 => c v σ H1 Q) W α (o.bind k) := by
  intro G H σ fs Q w r p
  cases ho : o with
  | ok d =>
    rw [ho] at p h
    refine h G H σ fs _ w r fun v G1 H1 f x rd => ?_
    obtain ⟨w1, r1⟩ := stay x w r
    exact hk d ho G1 H1 σ fs v f Q w1 r1 rd (PoE.later x p)
  | exc e =>
    rw [ho] at p h
    exact h G H σ fs _ w r p
  | bad => rw [ho] at p; exact p.elim
theorem so_bindB {W : WX} {α : Env} {te : TT} {o : R1 Bool} {k : Bool → R1 D} {c : Bool → L2.St → Hp → VK → Prop} (h : SoB K ct te W α o)
    (hk : ∀ d, o = .ok d → SoE K ct (c d) W α (k d)) : SoE K ct (fun σ H Q => te σ H fun v H1 => c v σ H1 Q) W α (o.bind k) := by
  intro G H σ fs Q w r p
  cases ho : o with
  | ok d =>
    rw [ho] at p h
    refine h G H σ fs _ w r fun G1 H1 x => ?_
    obtain ⟨w1, r1⟩ := stay x w r
    exact hk d ho G1 H1 σ fs Q w1 r1 (PoE.later x p)
  | exc e =>
    rw [ho] at p h
    exact h G H σ fs _ w r p
  | bad => rw [ho] at p; exact p.elim
theorem so_bindBB {W : WX} {α : Env} {te : TT} {o : R1 Bool} {k : Bool → R1 Bool} {c : Bool → L2.St → Hp → (Bool → Hp → Prop) → Prop} (h : SoB K ct te W α o)
    (hk : ∀ d, o = .ok d → SoB K ct (c d) W α (k d)) : SoB K ct (fun σ H Q => te σ H fun v H1 => c v σ H1 Q) W α (o.bind k) := by
  intro G H σ fs Q w r p
  cases ho : o with
  | ok d =>
    rw [ho] at p h
    refine h G H σ fs _ w r fun G1 H1 x => ?_
    obtain ⟨w1, r1⟩ := stay x w r
    exact hk d ho G1 H1 σ fs Q w1 r1 (PoB.later x p)
  | exc e =>
    rw [ho] at p h
    exact h G H σ fs _ w r p
  | bad => rw [ho] at p; exact p.elim
theorem so_bindEB {W : WX} {α : Env} {te : TE} {o : R1 D} {k : D → R1 Bool} {c : V → L2.St → Hp → (Bool → Hp → Prop) → Prop} (h : SoE K ct te W α o)
    (hk : ∀ d, o = .ok d → ∀ G H σ fs v f Q, WS G H (f ++ fs) → RepS K ct G H α σ fs → RepD K ct G H d v f → PoB K ct G H f σ W Q (k d) → c v σ H Q) : SoB K ct (fun σ H Q => te σ H fun v H1 => c v σ H1 Q) W α (o.bind k) := by
  intro G H σ fs Q w r p
  cases ho : o with
  | ok d =>
    rw [ho] at p h
    refine h G H σ fs _ w r fun v G1 H1 f x rd => ?_
    obtain ⟨w1, r1⟩ := stay x w r
    exact hk d ho G1 H1 σ fs v f Q w1 r1 rd (PoB.later x p)
  | exc e =>
    rw [ho] at p h
    exact h G H σ fs _ w r p
  | bad => rw [ho] at p; exact p.elim

/-! ### the cases -/
theorem so_frz {W : WX} {α : Env} {te : TE} {o : R1 D} (h : SoE K ct te W α o) : SoE K ct te W α (o.bind fun d => .ok d.freeze) := by
  refine so_bind (c := fun v _ H Q => Q v H) h fun d _ G H σ fs v f Q w r rd p => ?_
  have x := XT.frz (r := []) (by rw [List.append_nil]; exact w.left)
  rw [List.append_nil] at x
  exact p v _ H [] x (RepD.frz x.le rd fun a m => m)
theorem so_prim {W : WX} {α : Env} {ta : TA} {o : R1 (List D)} {op : POp} (hf : P.f = O.f) (h : SoL K ct ta W α o) : SoE K ct (fun σ H Q => ta σ H fun vs H1 => O.r op vs H1 Q) W α (o.bind fun ds => match P.f op ds with
    | some d => .ok d
    | none => .bad) := by
  refine so_bindL (c := fun vs _ H Q => O.r op vs H Q) h fun ds _ G H σ fs vs f Q w r rd p => ?_
  cases e : P.f op ds with
  | none => rw [e] at p; exact p.elim
  | some d =>
    rw [e] at p
    rw [hf] at e
    exact O.ok op G H ds vs f d w.left rd e Q p
theorem lim_line {n : Nat} (h : n < lim) : n < sizeLine := Nat.lt_of_lt_of_le h (by rw [sizeLine_eq]; decide)
theorem so_tup {W : WX} {α : Env} {ta : TA} {o : R1 (List D)} (h : SoL K ct ta W α o) : SoE K ct (tTup ta) W α (o.bind fun ds => if ds.length < lim then .ok (.tup ds) else .bad) := by
  refine so_bindL (c := fun xs _ H1 Q => xs.length ≤ sizeLine ∧ ∀ p, H1 p = none → Q (.ref p) (upd H1 p (.tup xs))) h fun ds _ G H σ fs vs f Q w r rd p => ?_
  by_cases hl : ds.length < lim
  · rw [if_pos hl] at p
    refine ⟨by rw [rd.length]; exact Nat.le_of_lt (lim_line hl), fun q hq => ?_⟩
    have x := XT.newG (o := .tup vs) w.left hq
    exact p _ _ _ f x ⟨q, vs, rfl, .inl (.inl upd_same), rd.mono x.le fun a m => upd_ne fun e => w.hn a (List.mem_append_left _ m) (by rw [e]; exact hq)⟩
  · rw [if_neg hl] at p
    exact p.elim
theorem so_lst {W : WX} {α : Env} {ta : TA} {o : R1 (List D)} (h : SoL K ct ta W α o) : SoE K ct (tLst ta) W α (o.bind fun ds => if ds.length < lim then .ok (.lst true ds) else .bad) := by
  refine so_bindL (c := fun xs _ H1 Q => xs.length ≤ sizeLine ∧ ∀ p, H1 p = none → Q (.ref p) (upd H1 p (.lst xs))) h fun ds _ G H σ fs vs f Q w r rd p => ?_
  by_cases hl : ds.length < lim
  · rw [if_pos hl] at p
    refine ⟨by rw [rd.length]; exact Nat.le_of_lt (lim_line hl), fun q hq => ?_⟩
    have x := XT.new (o := .lst vs) w.left hq
    exact p _ _ _ _ x ⟨q, vs, f, rfl, rfl, upd_same, rd.mono (Le.refl G) fun a m => upd_ne fun e => w.hn a (List.mem_append_left _ m) (by rw [e]; exact hq)⟩
  · rw [if_neg hl] at p
    exact p.elim
theorem so_chain {W : WX} {α : Env} {ta tb tc : TE} {a b c : R1 D} (h1 : SoE K ct ta W α a) (h2 : SoE K ct tb W α b) (h3 : SoE K ct tc W α c) : SoE K ct (tChain leR leR ta tb tc) W α (a.bind (chLe b c)) := by
  refine so_bind (c := fun x σ H1 Q => tb σ H1 fun y H2 => leR x y H2 fun z H3 => ∃ k, z = .bl k ∧ (if k = true then tc σ H3 fun w' H4 => leR y w' H4 Q else Q (.bl false) H3)) h1 fun d _ G H σ fs v f Q w r rd p => ?_
  cases d with
  | int i =>
    obtain ⟨rfl, rfl⟩ := rd
    refine so_bind (c := fun y σ H2 Q => leR (.int i) y H2 fun z H3 => ∃ k, z = .bl k ∧ (if k = true then tc σ H3 fun w' H4 => leR y w' H4 Q else Q (.bl false) H3)) h2 (fun d _ G H σ fs v f Q w r rd p => ?_) G H σ fs Q w r p
    cases d with
    | int j =>
      obtain ⟨rfl, rfl⟩ := rd
      refine ⟨i, j, rfl, rfl, decide (i ≤ j), rfl, ?_⟩
      have p' : PoE K ct G H [] σ W Q (if i ≤ j then c.bind (chLe2 j) else .ok (.bl false)) := p
      by_cases hij : i ≤ j
      · rw [if_pos (decide_eq_true hij)]
        rw [if_pos hij] at p'
        refine so_bind (c := fun w' σ H4 Q => leR (.int j) w' H4 Q) h3 (fun d _ G H σ fs v f Q w r rd p => ?_) G H σ fs Q w r p'
        cases d with
        | int l =>
          obtain ⟨rfl, rfl⟩ := rd
          exact ⟨j, l, rfl, rfl, p _ G H [] (XT.refl w.left) ⟨rfl, rfl⟩⟩
        | _ => exact p.elim
      · rw [if_neg (by simpa using hij)]
        rw [if_neg hij] at p'
        exact p' (.bl false) G H [] (XT.refl w.left) ⟨rfl, rfl⟩
    | _ => exact p.elim
  | _ => exact p.elim
theorem so_and {W : WX} {α : Env} {ta tb : TE} {a : R1 D} {b : R1 D} (h : SoE K ct ta W α a) (h' : SoE K ct tb W α b) : SoE K ct (tAndV ta tb) W α (a.bind fun d => match d with
    | .bl true => b
    | .bl false => .ok (.bl false)
    | _ => .bad) := by
  refine so_bind (c := fun x σ H1 Q => ∃ c, x = .bl c ∧ if c = true then tb σ H1 Q else Q (.bl false) H1) h fun d _ G H σ fs v f Q w r rd p => ?_
  cases d with
  | bl k =>
    obtain ⟨rfl, rfl⟩ := rd
    refine ⟨k, rfl, ?_⟩
    cases k with
    | true => exact h' G H σ fs Q w r p
    | false => exact p (.bl false) G H [] (XT.refl w.left) ⟨rfl, rfl⟩
  | _ => exact p.elim
theorem so_or {W : WX} {α : Env} {ta tb : TE} {a : R1 D} {b : R1 D} (h : SoE K ct ta W α a) (h' : SoE K ct tb W α b) : SoE K ct (tOrV ta tb) W α (a.bind fun d => match d with
    | .bl false => b
    | .bl true => .ok (.bl true)
    | _ => .bad) := by
  refine so_bind (c := fun x σ H1 Q => ∃ c, x = .bl c ∧ if c = true then Q (.bl true) H1 else tb σ H1 Q) h fun d _ G H σ fs v f Q w r rd p => ?_
  cases d with
  | bl k =>
    obtain ⟨rfl, rfl⟩ := rd
    refine ⟨k, rfl, ?_⟩
    cases k with
    | false => exact h' G H σ fs Q w r p
    | true => exact p (.bl true) G H [] (XT.refl w.left) ⟨rfl, rfl⟩
  | _ => exact p.elim
theorem so_not {W : WX} {α : Env} {ta : TE} {a : R1 D} (h : SoE K ct ta W α a) : SoE K ct (tNotV ta) W α (a.bind fun d => match d with
    | .bl k => .ok (.bl (!k))
    | _ => .bad) := by
  refine so_bind (c := fun x σ H1 Q => ∃ c, x = .bl c ∧ Q (.bl (!c)) H1) h fun d _ G H σ fs v f Q w r rd p => ?_
  cases d with
  | bl k =>
    obtain ⟨rfl, rfl⟩ := rd
    exact ⟨k, rfl, p (.bl (!k)) G H [] (XT.refl w.left) ⟨rfl, rfl⟩⟩
  | _ => exact p.elim
theorem so_ife {W : WX} {α : Env} {tc : TT} {ta tb : TE} {c : R1 Bool} {a b : R1 D} (hc : SoB K ct tc W α c) (h : SoE K ct ta W α a) (h' : SoE K ct tb W α b) : SoE K ct (tIf tc ta tb) W α (c.bind fun k => if k = true then a else b) := by
  refine so_bindB (c := fun k σ H1 Q => if k = true then ta σ H1 Q else tb σ H1 Q) hc fun d _ => ?_
  cases d with
  | true => exact h
  | false => exact h'
theorem so_nil {W : WX} {α : Env} : SoL K ct tNil W α (.ok []) := fun G H σ fs Q w r p => p [] G H [] (XT.refl (WS.nil w.le)) ⟨rfl, rfl⟩
theorem so_cons {W : WX} {α : Env} {te : TE} {ta : TA} {e : R1 D} {es : R1 (List D)} (h : SoE K ct te W α e) (h' : SoL K ct ta W α es) : SoL K ct (tCons te ta) W α (e.bind fun d => es.bind fun ds => .ok (d :: ds)) := by
  intro G H σ fs Q w r p
  cases he : e with
  | bad => rw [he] at p; exact p.elim
  | exc x => rw [he] at p h; exact h G H σ fs _ w r p
  | ok d =>
    rw [he] at p h
    refine h G H σ fs _ w r fun v G1 H1 f x rd => ?_
    obtain ⟨w1, r1⟩ := stay x w r
    cases hs : es with
    | bad => rw [hs] at p; exact p.elim
    | exc e2 =>
      rw [hs] at p h'
      refine h' G1 H1 σ fs _ w1.right r1 fun cls dx G2 H2 fp y q => ?_
      exact p cls dx G2 H2 fp ((x.two y).dropL) q
    | ok ds =>
      rw [hs] at p h'
      refine h' G1 H1 σ fs _ w1.right r1 fun vs G2 H2 g y q => ?_
      exact p (v :: vs) G2 H2 (f ++ g) (x.two y) ⟨v, vs, f, g, rfl, rfl, rd.later y w1.left, q⟩
/-- a call -/
theorem so_callW {W : WX} {α : Env} {G H : Hp} {σ : L2.St} {f : List Addr} {Q : VK} {fn : Str} {ds : List D} {vs : List V} (w : WS G H f) (rd : RepL K ct G H ds vs f) (p : PoE K ct G H f σ W Q (P.cal fn ds).val) :
    spI K ct P.cal fn vs H Q (WE W σ) := by
  refine ⟨G, ds, f, w, rd, ?_⟩
  cases e : P.cal fn ds with
  | bad => rw [e] at p; exact p
  | ok r fin =>
    rw [e] at p
    exact fun v G' H' fs' fp x _ q => p v G' H' fp x.dropL q
  | exc x fin =>
    rw [e] at p
    exact fun cls dx G' H' fs' fp y _ q => p cls dx G' H' fp y.dropL q
theorem so_call {W : WX} {α : Env} {ta : TA} {o : R1 (List D)} {fn : Str} {dvs : List Cst} (h : SoL K ct ta W α o) : SoE K ct (fun σ H Q => ta σ H fun vs H1 => spI K ct P.cal fn (vs ++ dvs.map Cst.v) H1 Q (WE W σ)) W α (o.bind fun ds => (P.cal fn (ds ++ dvs.map Cst.d)).val) := by
  refine so_bindL (c := fun vs σ H1 Q => spI K ct P.cal fn (vs ++ dvs.map Cst.v) H1 Q (WE W σ)) h fun ds _ G H σ fs vs f Q w r rd p => ?_
  have q := rd.append (RepL.csts G H dvs)
  rw [List.append_nil] at q
  exact so_callW (α := α) w.left q p
theorem lookup_zip {m : Str} : ∀ {fs : List Str} {xs : List V}, fs.contains m = false → (fs.zip xs).lookup m = none
  | [], _, _ => rfl
  | f :: fs, [], _ => rfl
  | f :: fs, x :: xs, h => by
    rw [List.contains_cons, Bool.or_eq_false_iff] at h
    rw [List.zip_cons_cons, List.lookup_cons, h.1]
    exact lookup_zip h.2
theorem RepD.inst {G H : Hp} {d : D} {v : V} {f : List Addr} {c m : Str} (w : Le G H) (r : RepD K ct G H d v f) (h : clsOf d = some c) (n : noField m d = true) : ∃ a C dx fl, v = .ref a ∧ H a = some (.ins C dx fl) ∧ ct c = some C ∧ fl.lookup m = none := by
  cases d with
  | ins k c' fs l =>
    have e : c' = c := Option.some.inj h
    subst e
    have n' : (!fs.contains m) = true := n
    have nn : fs.contains m = false := by simpa using n'
    cases k with
    | true =>
      obtain ⟨a, C, dx, xs, f', e1, e2, e3, e4, _⟩ := r
      exact ⟨a, C, dx, _, e1, e4, e3, lookup_zip nn⟩
    | false =>
      obtain ⟨_, a, C, dx, xs, e1, e3, e4, _⟩ := r
      exact ⟨a, C, dx, _, e1, w.ins _ _ _ _ e4, e3, lookup_zip nn⟩
  | _ => cases h
theorem so_meth {W : WX} {α : Env} {te : TE} {ta : TA} {o : R1 D} {os : R1 (List D)} {m : Str} {dvs : List Cst} (h : SoE K ct te W α o) (h' : SoL K ct ta W α os) :
    SoE K ct (fun σ H Q => te σ H fun x H1 => ∃ a c C dx fl f, x = .ref a ∧ H1 a = some (.ins C dx fl) ∧ ct c = some C ∧ P.mt c m = some f ∧ fl.lookup m = none ∧
      ta σ H1 fun vs H2 => spI K ct P.cal f (x :: (vs ++ dvs.map Cst.v)) H2 Q (WE W σ)) W α (o.bind fun d => match clsOf d with
    | none => .bad
    | some c => if noField m d = true then match P.mt c m with
      | none => .bad
      | some f => os.bind fun ds => (P.cal f (d :: (ds ++ dvs.map Cst.d))).val else .bad) := by
  refine so_bind (c := fun x σ H1 Q => ∃ a c C dx fl f, x = .ref a ∧ H1 a = some (.ins C dx fl) ∧ ct c = some C ∧ P.mt c m = some f ∧ fl.lookup m = none ∧
      ta σ H1 fun vs H2 => spI K ct P.cal f (x :: (vs ++ dvs.map Cst.v)) H2 Q (WE W σ)) h fun d _ G H σ fs v f Q w r rd p => ?_
  cases hc : clsOf d with
  | none => rw [hc] at p; exact p.elim
  | some c =>
    rw [hc] at p
    have p' : PoE K ct G H f σ W Q (if noField m d = true then match P.mt c m with
        | none => .bad
        | some f => os.bind fun ds => (P.cal f (d :: (ds ++ dvs.map Cst.d))).val else .bad) := p
    by_cases hn : noField m d = true
    · rw [if_pos hn] at p'
      obtain ⟨a, C, dx, fl, e1, e2, e3, e4⟩ := rd.inst w.le hc hn
      cases hm : P.mt c m with
      | none => rw [hm] at p'; exact p'.elim
      | some g =>
        rw [hm] at p'
        refine ⟨a, c, C, dx, fl, g, e1, e2, e3, hm, e4, ?_⟩
        have p2 : PoE K ct G H f σ W Q (os.bind fun ds => (P.cal g (d :: (ds ++ dvs.map Cst.d))).val) := p'
        cases hs : os with
        | bad => rw [hs] at p2; exact p2.elim
        | exc x =>
          rw [hs] at p2 h'
          exact h' G H σ fs _ w.right r (PoL.later (XT.refl w.left).none p2)
        | ok ds =>
          rw [hs] at p2 h'
          refine h' G H σ fs _ w.right r fun vs G1 H1 g1 x rl => ?_
          have x1 := x.besideL (r := f) (by rw [List.append_nil]; exact w.left)
          rw [List.append_nil] at x1
          have q := rl.append (RepL.csts G1 H1 dvs)
          rw [List.append_nil] at q
          exact so_callW (α := α) (ds := d :: (ds ++ dvs.map Cst.d)) x1.ws ⟨v, _, f, g1, rfl, rfl, rd.later x w.left, q⟩ (PoE.later x1 p2)
    · rw [if_neg hn] at p'
      exact p'.elim
theorem RepD.ty {G H : Hp} {d : D} {v : V} {f : List Addr} {T : Ty} (w : Le G H) (r : RepD K ct G H d v f) (h : tyD T d = true) : tyQ K T.n v H := by
  cases d with
  | str s =>
    obtain ⟨rfl, _⟩ := r
    cases T with
    | str => rfl
    | _ => cases h
  | lst m l =>
    cases T with
    | list =>
      cases m with
      | true => obtain ⟨a, xs, f', rfl, _, e, _⟩ := r; exact .inl ⟨rfl, xs, .inl (.inl e)⟩
      | false => obtain ⟨_, a, xs, rfl, e, _⟩ := r; exact .inl ⟨rfl, xs, w.sqL e⟩
    | _ => cases h
  | dct m ks l =>
    cases T with
    | dict =>
      cases m with
      | true => obtain ⟨a, xs, f', rfl, _, e, _⟩ := r; exact .inr ⟨rfl, _, .inl e⟩
      | false => obtain ⟨_, a, xs, rfl, e, _⟩ := r; exact .inr ⟨rfl, _, w.rd _ _ e⟩
    | _ => cases h
  | _ => cases T <;> cases h
theorem so_pm {W : WX} {α : Env} {te : TE} {ta : TA} {o : R1 D} {os : R1 (List D)} {T : Ty} {op : POp} (hf : P.f = O.f) (h : SoE K ct te W α o) (h' : SoL K ct ta W α os) :
    SoE K ct (fun σ H Q => te σ H fun x H1 => tyQ K T.n x H1 ∧ ta σ H1 fun vs H2 => O.r op (x :: vs) H2 Q) W α (o.bind fun d => if tyD T d = true then os.bind fun ds => match P.f op (d :: ds) with
    | some d => .ok d
    | none => .bad
    else .bad) := by
  refine so_bind (c := fun x σ H1 Q => tyQ K T.n x H1 ∧ ta σ H1 fun vs H2 => O.r op (x :: vs) H2 Q) h fun d _ G H σ fs v f Q w r rd p => ?_
  by_cases ht : tyD T d = true
  · rw [if_pos ht] at p
    refine ⟨rd.ty w.le ht, ?_⟩
    cases hs : os with
    | bad => rw [hs] at p; exact p.elim
    | exc x =>
      rw [hs] at p h'
      exact h' G H σ fs _ w.right r (PoL.later (XT.refl w.left).none p)
    | ok ds =>
      rw [hs] at p h'
      refine h' G H σ fs _ w.right r fun vs G1 H1 g1 x rl => ?_
      have x1 := x.besideL (r := f) (by rw [List.append_nil]; exact w.left)
      rw [List.append_nil] at x1
      have p2 : PoE K ct G H f σ W Q (match P.f op (d :: ds) with
        | some d => .ok d
        | none => .bad) := p
      cases e : P.f op (d :: ds) with
      | none => rw [e] at p2; exact p2.elim
      | some z =>
        rw [e] at p2
        rw [hf] at e
        exact O.ok op G1 H1 (d :: ds) (v :: vs) (f ++ g1) z x1.ws ⟨v, vs, f, g1, rfl, rfl, rd.later x w.left, rl⟩ e Q (PoE.later x1 p2)
  · rw [if_neg ht] at p
    exact p.elim
/-- an object beside -/
theorem XT.extra {G H : Hp} {fs : List Addr} {p : Addr} {o : HO} (w : WS G H fs) (h : H p = Option.none) : XT G H fs G (upd H p o) fs :=
  (XT.new (o := o) w h).drop (fun a m => List.mem_cons_of_mem _ m) w.nd
theorem so_make {W : WX} {α : Env} {ta : TA} {o : R1 (List D)} {c fn : Str} {dvs : List Cst} (hC : ∀ c, P.cs.contains c = true → ∃ C, ct c = some C) (h : SoL K ct ta W α o) :
    SoE K ct (fun σ H Q => ta σ H fun vs H1 => ∃ C, ct c = some C ∧ ∀ x dx, H1 x = none → H1 dx = none → dx ≠ x →
      spI K ct P.cal fn (.ref x :: (vs ++ dvs.map Cst.v)) (upd (upd H1 dx (.own x)) x (.ins C dx [])) (fun v H2 => v = .non ∧ Q (.ref x) H2) (WE W σ)) W α
      (if P.cs.contains c = true then o.bind fun ds => (P.cal fn (.ins true c [] [] :: (ds ++ dvs.map Cst.d))).made else .bad) := by
  by_cases hcs : P.cs.contains c = true
  · rw [if_pos hcs]
    refine so_bindL (c := fun vs σ H1 Q => ∃ C, ct c = some C ∧ ∀ x dx, H1 x = none → H1 dx = none → dx ≠ x →
      spI K ct P.cal fn (.ref x :: (vs ++ dvs.map Cst.v)) (upd (upd H1 dx (.own x)) x (.ins C dx [])) (fun v H2 => v = .non ∧ Q (.ref x) H2) (WE W σ)) h fun ds _ G H σ fs vs f Q w r rd p => ?_
    obtain ⟨C, hc⟩ := hC c hcs
    refine ⟨C, hc, fun x dx hx hdx ne => ?_⟩
    have x1 := XT.extra (o := .own x) w.left hdx
    have hx1 : upd H dx (.own x) x = none := by rw [upd_ne (Ne.symm ne)]; exact hx
    have x2 := XT.new (o := .ins C dx []) x1.ws hx1
    have x3 := x1.trans x2
    have q := rd.append (RepL.csts G H dvs)
    rw [List.append_nil] at q
    have q2 : RepL K ct G (upd (upd H dx (.own x)) x (.ins C dx [])) (ds ++ dvs.map Cst.d) (vs ++ dvs.map Cst.v) f := q.mono (Le.refl G) fun a m => by
      have ha := w.hn a (List.mem_append_left _ m)
      rw [upd_ne (fun e => ha (by rw [e]; exact hx)), upd_ne (fun e => ha (by rw [e]; exact hdx))]
    refine ⟨G, .ins true c [] [] :: (ds ++ dvs.map Cst.d), x :: f, x2.ws, ⟨.ref x, _, [x], f, rfl, rfl, ⟨x, C, dx, [], [], rfl, rfl, hc, upd_same, rfl, rfl, rfl⟩, q2⟩, ?_⟩
    cases e : P.cal fn (.ins true c [] [] :: (ds ++ dvs.map Cst.d)) with
    | bad => rw [e] at p; exact p
    | exc y fin =>
      rw [e] at p
      exact fun cls dx' G' H' fs' fp z _ q => p cls dx' G' H' fp ((x3.trans z).dropL) q
    | ok rr fin =>
      rw [e] at p
      intro v G' H' fs' fp z rf rv
      cases rr with
      | non =>
        cases fin with
        | nil => exact p.elim
        | cons o fin =>
          cases o with
          | none => exact p.elim
          | some d =>
            obtain ⟨rfl, rfl⟩ := rv
            obtain ⟨v', r', f', g', e1, e2, e3, e4⟩ := rf
            injection e1 with e1 e1'
            subst e1
            rw [List.append_nil, e2] at z
            exact ⟨rfl, p (.ref x) G' H' f' ((x3.trans z).dropR) e3⟩
      | _ => exact p.elim
  · rw [if_neg hcs]
    exact fun G H σ fs Q w r p => p.elim

/-! ### targets -/
theorem nodup_of {G H : Hp} {fs gs : List Addr} (w : WS G H fs) (h : ∀ a, a ∈ gs → a ∈ fs) (nd : gs.Nodup) : WS G H gs := w.sub h nd
def SoP (K : PySem.W.Frag) (ct : Str → Option Addr) (p : Pat) : Prop := ∀ G H σ fs v d f α α' (Q : L2.St → Hp → Prop), WS G H (f ++ fs) → RepD K ct G H d v f → RepS K ct G H α σ fs → asgP p d α = some α' →
  (∀ σ' gs, (∀ a, a ∈ gs → a ∈ f ++ fs) → gs.Nodup → RepS K ct G H α' σ' gs → (∀ i, i ∉ p.slots → σ'[i]? = σ[i]?) → σ'.length = σ.length → Q σ' H) → gP K p v σ H Q
def SoPs (K : PySem.W.Frag) (ct : Str → Option Addr) (ps : List Pat) : Prop := ∀ G H σ fs vs ds f α α' (Q : L2.St → Hp → Prop), WS G H (f ++ fs) → RepL K ct G H ds vs f → RepS K ct G H α σ fs → asgPs ps ds α = some α' →
  (∀ σ' gs, (∀ a, a ∈ gs → a ∈ f ++ fs) → gs.Nodup → RepS K ct G H α' σ' gs → (∀ i, i ∉ Pat.slotsL ps → σ'[i]? = σ[i]?) → σ'.length = σ.length → Q σ' H) → gPs K ps vs σ H Q
theorem sp_one {i : Nat} : SoP K ct (.one i) := by
  intro G H σ fs v d f α α' Q w rd r e k
  have e' : (if i < α.length then some (α.set i (some d)) else none) = some α' := e
  by_cases hi : i < α.length
  · rw [if_pos hi] at e'
    cases e'
    obtain ⟨gs, h1, h2, h3⟩ := RepS.put r rd hi w.nd
    refine k _ gs h1 h2 h3 (fun j hj => ?_) (by rw [List.length_set])
    have ne : i ≠ j := fun z => hj (by rw [z]; exact List.mem_singleton.mpr rfl)
    rw [List.getElem?_set_ne ne]
  · rw [if_neg hi] at e'; cases e'
theorem sps_nil : SoPs K ct [] := by
  intro G H σ fs vs ds f α α' Q w rd r e k
  cases ds with
  | cons d ds => cases e
  | nil =>
    have e' : some α = some α' := e
    cases e'
    obtain ⟨rfl, rfl⟩ := rd
    exact ⟨rfl, k σ fs (fun a m => m) w.right.nd r (fun _ _ => rfl) rfl⟩
theorem sps_cons {p : Pat} {ps : List Pat} (h : SoP K ct p) (h' : SoPs K ct ps) : SoPs K ct (p :: ps) := by
  intro G H σ fs vs ds f α α' Q w rd r e k
  cases ds with
  | nil => cases e
  | cons d ds =>
    have e' : (asgP p d α).bind (asgPs ps ds) = some α' := e
    cases ha : asgP p d α with
    | none => rw [ha] at e'; cases e'
    | some α1 =>
      rw [ha] at e'
      have e2 : asgPs ps ds α1 = some α' := e'
      obtain ⟨v, vs', f1, g1, rfl, rfl, r1, r2⟩ := rd
      refine ⟨v, vs', rfl, ?_⟩
      have w1 : WS G H (f1 ++ fs) := w.sub (fun a m => by
        rcases List.mem_append.mp m with m | m
        · exact List.mem_append_left _ (List.mem_append_left _ m)
        · exact List.mem_append_right _ m) (by
        have := w.nd
        rw [List.append_assoc] at this
        have q := List.nodup_append.mp this
        have q2 := List.nodup_append.mp q.2.1
        exact List.nodup_append.mpr ⟨q.1, q2.2.1, fun a m b m' => q.2.2 a m b (List.mem_append_right _ m')⟩)
      refine h G H σ fs v d f1 α α1 _ w1 r1 r ha fun σ1 gs1 m1 n1 s1 k1 l1 => ?_
      have w2 : WS G H (g1 ++ gs1) := w.sub (fun a m => by
        rcases List.mem_append.mp m with m | m
        · exact List.mem_append_left _ (List.mem_append_right _ m)
        · rcases List.mem_append.mp (m1 a m) with z | z
          · exact List.mem_append_left _ (List.mem_append_left _ z)
          · exact List.mem_append_right _ z) (by
        have := w.nd
        rw [List.append_assoc] at this
        have q := List.nodup_append.mp this
        have q2 := List.nodup_append.mp q.2.1
        refine List.nodup_append.mpr ⟨q2.1, n1, fun a m b m' e => ?_⟩
        subst e
        rcases List.mem_append.mp (m1 a m') with z | z
        · exact q.2.2 a z a (List.mem_append_left _ m) rfl
        · exact q2.2.2 a m a z rfl)
      refine h' G H σ1 gs1 vs' ds g1 α1 α' _ w2 r2 s1 e2 fun σ2 gs2 m2 n2 s2 k2 l2 => ?_
      refine k σ2 gs2 (fun a m => ?_) n2 s2 (fun i hi => ?_) (l2.trans l1)
      · rcases List.mem_append.mp (m2 a m) with z | z
        · exact List.mem_append_left _ (List.mem_append_right _ z)
        · rcases List.mem_append.mp (m1 a z) with z | z
          · exact List.mem_append_left _ (List.mem_append_left _ z)
          · exact List.mem_append_right _ z
      · have hi' : i ∉ p.slots ++ Pat.slotsL ps := hi
        rw [k2 i fun z => hi' (List.mem_append_right _ z), k1 i fun z => hi' (List.mem_append_left _ z)]
theorem asgPs_length : ∀ {ps : List Pat} {ds : List D} {α α' : Env}, asgPs ps ds α = some α' → ds.length = ps.length
  | [], [], _, _, _ => rfl
  | [], _ :: _, _, _, h => by cases h
  | _ :: _, [], _, _, h => by cases h
  | p :: ps, d :: ds, α, α', h => by
    have h' : (asgP p d α).bind (asgPs ps ds) = some α' := h
    cases ha : asgP p d α with
    | none => rw [ha] at h'; cases h'
    | some α1 =>
      rw [ha] at h'
      have := asgPs_length (ps := ps) (ds := ds) h'
      rw [List.length_cons, List.length_cons, this]
theorem sp_tup {ps : List Pat} (h : SoPs K ct ps) : SoP K ct (.tup ps) := by
  intro G H σ fs v d f α α' Q w rd r e k
  cases d with
  | tup l =>
    obtain ⟨a, xs, rfl, s, rl⟩ := rd
    have e' : asgPs ps l α = some α' := e
    exact .inl ⟨a, xs, rfl, w.le.sqT s, by rw [rl.length, asgPs_length e'], h G H σ fs xs l f α α' Q w rl r e' k⟩
  | lst m l =>
    have e' : asgPs ps l α = some α' := e
    cases m with
    | false =>
      obtain ⟨rfl, a, xs, rfl, s, rl⟩ := rd
      exact .inr ⟨a, xs, rfl, w.le.sqL s, by rw [rl.length, asgPs_length e'], h G H σ fs xs l [] α α' Q w rl r e' k⟩
    | true =>
      obtain ⟨a, xs, f', rfl, rfl, s, rl⟩ := rd
      refine .inr ⟨a, xs, rfl, .inl (.inl s), by rw [rl.length, asgPs_length e'], h G H σ fs xs l f' α α' Q (w.sub (fun b m => ?_) (List.nodup_cons.mp w.nd).2) rl r e' fun σ' gs m n s k1 l1 => k σ' gs (fun b mb => ?_) n s k1 l1⟩
      · exact List.mem_cons_of_mem _ m
      · exact List.mem_cons_of_mem _ (m b mb)
  | _ => cases e
mutual
theorem sP : ∀ p : Pat, SoP K ct p
  | .one i => sp_one
  | .tup ps => sp_tup (sPs ps)
theorem sPs : ∀ ps : List Pat, SoPs K ct ps
  | [] => sps_nil
  | p :: ps => sps_cons (sP p) (sPs ps)
end
end LD
namespace LD
open PySem PySem.Spec PyProof.Rows L2
variable {K : PySem.W.Frag} {ct : Str → Option Addr} {O : Ops K ct} {P : Pg}

/-! ### a comprehension -/
theorem RepS.wipe1 {G H : Hp} : ∀ {α : Env} {σ : L2.St} {fs : List Addr} {i : Nat}, RepS K ct G H α σ fs → fs.Nodup → ∃ gs, (∀ a, a ∈ gs → a ∈ fs) ∧ gs.Nodup ∧ RepS K ct G H (α.set i none) (σ.set i none) gs
  | [], _, fs, i, ⟨h, h'⟩, nd => ⟨fs, fun _ m => m, nd, by rw [h]; rfl, h'⟩
  | none :: α, _, fs, 0, ⟨y, r, e, hs⟩, nd => ⟨fs, fun _ m => m, nd, none, r, by rw [e]; rfl, hs⟩
  | none :: α, _, fs, i + 1, ⟨y, r, e, hs⟩, nd => by
    obtain ⟨gs, h1, h2, h3⟩ := RepS.wipe1 (i := i) hs nd
    exact ⟨gs, h1, h2, y, _, by rw [e]; rfl, h3⟩
  | some d :: α, _, fs, 0, ⟨v, r, f, g, e, e0, h0, hs⟩, nd => by
    subst e0
    exact ⟨g, fun a m => List.mem_append_right _ m, (List.nodup_append.mp nd).2.1, none, r, by rw [e]; rfl, hs⟩
  | some d :: α, _, fs, i + 1, ⟨v, r, f, g, e, e0, h0, hs⟩, nd => by
    subst e0
    have q := List.nodup_append.mp nd
    obtain ⟨gs, h1, h2, h3⟩ := RepS.wipe1 (i := i) hs q.2.1
    refine ⟨f ++ gs, fun a m => ?_, List.nodup_append.mpr ⟨q.1, h2, fun a m b m' => q.2.2 a m b (h1 b m')⟩, v, _, f, gs, by rw [e]; rfl, rfl, h0, h3⟩
    rcases List.mem_append.mp m with z | z
    · exact List.mem_append_left _ z
    · exact List.mem_append_right _ (h1 a z)
theorem RepS.wipe {G H : Hp} {α : Env} {σ : L2.St} {fs : List Addr} (r : RepS K ct G H α σ fs) (nd : fs.Nodup) : ∀ own : List Nat, ∃ gs, (∀ a, a ∈ gs → a ∈ fs) ∧ gs.Nodup ∧ RepS K ct G H (wipeE α own) (L2.wipe σ own) gs
  | [] => ⟨fs, fun _ m => m, nd, r⟩
  | i :: own => by
    obtain ⟨gs, h1, h2, h3⟩ := RepS.wipe r nd own
    obtain ⟨gs', k1, k2, k3⟩ := RepS.wipe1 (i := i) h3 h2
    exact ⟨gs', fun a m => h1 a (k1 a m), k2, k3⟩
theorem wipe_get (σ : L2.St) : ∀ (own : List Nat) (j : Nat), (L2.wipe σ own)[j]? = if j ∈ own then (if j < σ.length then some none else none) else σ[j]?
  | [], j => by simp [L2.wipe]
  | i :: own, j => by
    show ((L2.wipe σ own).set i none)[j]? = _
    rw [List.getElem?_set]
    by_cases e : i = j
    · subst e
      simp [L2.wipe_length]
    · rw [if_neg e, wipe_get σ own j]
      have e' : ¬ j = i := fun z => e z.symm
      simp [List.mem_cons, e']
theorem wipe_same {σ σ2 : L2.St} {own : List Nat} (hl : σ2.length = σ.length) (h : ∀ i, i ∉ own → σ2[i]? = (L2.wipe σ own)[i]?) : L2.wipe σ2 own = L2.wipe σ own := by
  apply List.ext_getElem?
  intro j
  rw [wipe_get σ2, wipe_get σ, hl]
  by_cases m : j ∈ own
  · rw [if_pos m, if_pos m]
  · rw [if_neg m, if_neg m, h j m, wipe_get σ, if_neg m]
theorem XT.pushD {G H G1 H1 : Hp} {f : List Addr} (x : XT G H [] G1 H1 f) : XT G H [] G1 H1 f := x
theorem freeze_list {G H : Hp} {ds : List D} {vs : List V} {f fs : List Addr} (w : WS G H (f ++ fs)) (r : RepL K ct G H ds vs f) : XT G H f (frozen G H f) H [] ∧ RepL K ct (frozen G H f) H (D.freezeL ds) vs [] := by
  have x := XT.frz (r := []) (by rw [List.append_nil]; exact w.left)
  rw [List.append_nil] at x
  exact ⟨x, RepL.frz x.le r fun a m => m⟩
/-- the turns -/
theorem so_lc {W : WX} {α : Env} {ta : TA} {os : R1 (List D)} {own : List Nat} {p : Pat} {op : IOp} {b : B} {e : E} (hfi : P.fi = O.fi) (h : SoL K ct ta W α os) (hb : ∀ α, SoB K ct (semB O P W0 b) W0 α (evB P b α)) (he : ∀ α, SoE K ct (semE O P W0 e) W0 α (evE P e α)) :
    SoE K ct (tUnlE op.dw O.z (tLc (fun σ H R => ta σ H fun vs H1 => O.ri op vs H1 R) (gP K p) (semB O P W0 b) (semE O P W0 e) own)) W α
      (if p.slots.all own.contains = true then os.bind fun ds => match P.fi op (D.freezeL ds) with
    | none => .bad
    | some items => if items.length < lim then lcGo (fun d => match asgP p d (wipeE α own) with
        | none => .bad
        | some α1 => (evB P b α1).bind fun k => if k = true then (evE P e α1).bind fun x => .ok (some x) else .ok none) items [] else .bad
    else .bad) := by
  by_cases hsl : p.slots.all own.contains = true
  · rw [if_pos hsl]
    intro G H σ fs Q w r p0
    cases hos : os with
    | bad => rw [hos] at p0; exact p0.elim
    | exc x => rw [hos] at p0 h; exact h G H σ fs _ w r p0
    | ok ds =>
      rw [hos] at p0 h
      have p1 : PoE K ct G H [] σ W Q (match P.fi op (D.freezeL ds) with
          | none => .bad
          | some items => if items.length < lim then lcGo (fun d => match asgP p d (wipeE α own) with
              | none => .bad
              | some α1 => (evB P b α1).bind fun k => if k = true then (evE P e α1).bind fun x => .ok (some x) else .ok none) items [] else .bad) := p0
      cases hit : P.fi op (D.freezeL ds) with
      | none => rw [hit] at p1; exact p1.elim
      | some items =>
        rw [hit] at p1
        by_cases hlim : items.length < lim
        · have p2 : PoE K ct G H [] σ W Q (if items.length < lim then lcGo (fun d => match asgP p d (wipeE α own) with
              | none => .bad
              | some α1 => (evB P b α1).bind fun k => if k = true then (evE P e α1).bind fun x => .ok (some x) else .ok none) items [] else .bad) := p1
          rw [if_pos hlim] at p2
          generalize hF : (fun d => match asgP p d (wipeE α own) with
              | none => (R1.bad : R1 (Option D))
              | some α1 => (evB P b α1).bind fun k => if k = true then (evE P e α1).bind fun x => .ok (some x) else .ok none) = F at p2
          refine h G H σ fs _ w r fun vs G1 H1 f x1 rl => ?_
          obtain ⟨w1, r1⟩ := stay x1 w r
          obtain ⟨x2, rl2⟩ := freeze_list w1 rl
          have x12 := x1.trans x2
          rw [hfi] at hit
          refine O.oki op _ H1 _ vs items x2.ws rl2 hit _ fun J G3 H3 x3 hJ => ?_
          have key : WS G3 H3 ([] ++ fs) ∧ RepS K ct G3 H3 α σ fs ∧ PoE K ct G3 H3 [] σ W (fun v H => unlB op.dw O.z (Q v) H) (lcGo F items []) := by
            rcases x3 with x3 | ⟨hdw, rfl, lk⟩
            · have x13 := x12.trans x3
              obtain ⟨w3, r3⟩ := stay x13 w r
              exact ⟨w3, r3, PoE.unl (PoE.later x13 p2)⟩
            · obtain ⟨w2, r2⟩ := stay x12 w r
              exact ⟨lk.ws w2, lk.rs w2 r2, PoE.lock lk (WS.nil w2.le) (fun x => lcGo_nx _ _) hdw (PoE.later x12 p2)⟩
          clear p0 p1
          obtain ⟨w3, r3, p3⟩ := key
          generalize hQ : (fun v H => unlB op.dw O.z (Q v) H) = Q' at p3 ⊢
          clear hQ p2
          intro Dd hDd
          refine ⟨fun i m H' => m = items.length - i ∧ i ≤ items.length ∧ ∃ G' acc ys fa, XT G3 H3 [] G' H' (Dd :: fa) ∧ H' Dd = some (.lst ys) ∧ RepL K ct G' H' acc ys fa ∧ acc.length ≤ i ∧ PoE K ct G3 H3 [] σ W Q' (lcGo F (items.drop i) acc), ⟨items.length, by simp, Nat.zero_le _, G3, [], [], [], XT.new (WS.nil w3.le) hDd, upd_same, ⟨rfl, rfl⟩, Nat.le_refl _, by rw [List.drop_zero]; exact p3⟩, ?_⟩
          rintro i m H' ⟨rfl, hi, G', acc, ys, fa, x4, hD, rl4, hacc, p4⟩
          obtain ⟨hgo, hstop⟩ := hJ G' H' (Dd :: fa) x4.ws x4.eq fun a h => x4.fr a (fun q => h (w3.le.dom q)) (by simp)
          by_cases hlt : i < items.length
          · obtain ⟨go, yld⟩ := hgo i hlt
            refine .inr ⟨go, fun H'' => ∃ m', m' < items.length - i ∧ (m' = items.length - (i + 1) ∧ i + 1 ≤ items.length ∧ ∃ G' acc ys fa, XT G3 H3 [] G' H'' (Dd :: fa) ∧ H'' Dd = some (.lst ys) ∧ RepL K ct G' H'' acc ys fa ∧ acc.length ≤ i + 1 ∧ PoE K ct G3 H3 [] σ W Q' (lcGo F (items.drop (i + 1)) acc)), fun H'' hN => hN, fun y H5 hy => ?_⟩
            obtain ⟨G5, d, hd, x5, rd⟩ := yld y H5 hy
            have w4s : WS G' H' ((Dd :: fa) ++ fs) := by
              have := (x4.beside (r := fs) (fs := []) w3.right).ws
              exact this
            have r4 : RepS K ct G' H' α σ fs := r3.mono x4.le fun a m => x4.fr a (w3.right.hn a m) (by simp)
            obtain ⟨w5, r5⟩ := stay x5 w4s.right r4
            have w5' : WS G5 H5 fs := w5
            obtain ⟨gs, g1, g2, g3⟩ := r5.wipe w5'.nd own
            have x5D : XT G' H' (Dd :: fa) G5 H5 (Dd :: fa) := by
              have := x5.beside (r := Dd :: fa) (fs := []) x4.ws
              exact this
            have eF : F d = match asgP p d (wipeE α own) with
              | none => (R1.bad : R1 (Option D))
              | some α1 => (evB P b α1).bind fun k => if k = true then (evE P e α1).bind fun x => .ok (some x) else .ok none := by rw [← hF]
            have edrop : items.drop i = d :: items.drop (i + 1) := by
              rw [List.drop_eq_getElem_cons hlt]
              have := List.getElem?_eq_getElem hlt
              rw [hd] at this
              rw [Option.some.inj this]
            rw [edrop] at p4
            have p5 : PoE K ct G3 H3 [] σ W Q' (match F d with
              | .ok (some x) => lcGo F (items.drop (i + 1)) (acc ++ [x])
              | .ok none => lcGo F (items.drop (i + 1)) acc
              | _ => .bad) := p4
            cases ha : asgP p d (wipeE α own) with
            | none => rw [eF, ha] at p5; exact p5.elim
            | some α1 =>
              rw [eF, ha] at p5
              refine sP p G5 H5 (L2.wipe σ own) gs y d [] (wipeE α own) α1 _ (w5'.sub g1 g2) rd g3 ha fun σ2 gs2 m2 n2 s2 k2 l2 => ?_
              have w6 : WS G5 H5 gs2 := w5'.sub (fun a m => g1 a (m2 a m)) n2
              refine ⟨wipe_same (by rw [l2, L2.wipe_length]) fun j hj => k2 j fun z => hj ?_, ?_⟩
              · have := List.all_eq_true.mp hsl j z
                simpa using this
              -- the test
              have p5b : PoE K ct G3 H3 [] σ W Q' (match (evB P b α1).bind fun k => if k = true then (evE P e α1).bind fun x => R1.ok (some x) else (R1.ok none : R1 (Option D)) with
                | .ok (some x) => lcGo F (items.drop (i + 1)) (acc ++ [x])
                | .ok none => lcGo F (items.drop (i + 1)) acc
                | _ => .bad) := p5
              clear p5
              have p5 := p5b
              clear p5b
              cases hbv : evB P b α1 with
              | bad => rw [hbv] at p5; exact p5.elim
              | exc x => rw [hbv] at p5; exact p5.elim
              | ok k =>
                rw [hbv] at p5
                have hbs := hb α1
                rw [hbv] at hbs
                refine hbs G5 H5 σ2 gs2 _ w6 s2 fun G6 H6 x6 => ?_
                obtain ⟨w6', s6⟩ := stay x6 w6 s2
                have wD : WS G5 H5 (Dd :: fa) := x5D.ws
                have x6D : XT G5 H5 (Dd :: fa) G6 H6 (Dd :: fa) := by
                  have := x6.beside (r := Dd :: fa) (fs := []) wD
                  exact this
                have keepD : H6 Dd = some (.lst ys) := by
                  rw [x6.fr Dd (wD.hn Dd List.mem_cons_self) (by simp), x5.fr Dd (x4.ws.hn Dd List.mem_cons_self) (by simp)]
                  exact hD
                have x46 := (x4.trans x5D).trans x6D
                have rl6 : RepL K ct G6 H6 acc ys fa := (rl4.mono x5D.le fun a m => x5.fr a (x4.ws.hn a (List.mem_cons_of_mem _ m)) (by simp)).mono x6.le fun a m => x6.fr a (wD.hn a (List.mem_cons_of_mem _ m)) (by simp)
                cases k with
                | false =>
                  show ∃ m', _ ∧ _
                  have p6 : PoE K ct G3 H3 [] σ W Q' (lcGo F (items.drop (i + 1)) acc) := p5
                  exact ⟨items.length - (i + 1), by omega, rfl, hlt, G6, acc, ys, fa, x46, keepD, rl6, Nat.le_succ_of_le hacc, p6⟩
                | true =>
                  show semE O P W0 e σ2 H6 _
                  cases hev : evE P e α1 with
                  | bad =>
                    have p6 : PoE K ct G3 H3 [] σ W Q' (match (evE P e α1).bind fun x => R1.ok (some x) with
                      | .ok (some x) => lcGo F (items.drop (i + 1)) (acc ++ [x])
                      | .ok none => lcGo F (items.drop (i + 1)) acc
                      | _ => .bad) := p5
                    rw [hev] at p6; exact p6.elim
                  | exc x =>
                    have p6 : PoE K ct G3 H3 [] σ W Q' (match (evE P e α1).bind fun x => R1.ok (some x) with
                      | .ok (some x) => lcGo F (items.drop (i + 1)) (acc ++ [x])
                      | .ok none => lcGo F (items.drop (i + 1)) acc
                      | _ => .bad) := p5
                    rw [hev] at p6; exact p6.elim
                  | ok z =>
                    have p6 : PoE K ct G3 H3 [] σ W Q' (match (evE P e α1).bind fun x => R1.ok (some x) with
                      | .ok (some x) => lcGo F (items.drop (i + 1)) (acc ++ [x])
                      | .ok none => lcGo F (items.drop (i + 1)) acc
                      | _ => .bad) := p5
                    rw [hev] at p6
                    have p7 : PoE K ct G3 H3 [] σ W Q' (lcGo F (items.drop (i + 1)) (acc ++ [z])) := p6
                    have hes := he α1
                    rw [hev] at hes
                    refine hes G6 H6 σ2 gs2 _ w6'.right s6 fun u G7 H7 fz x7 rz => ?_
                    have wD6 : WS G6 H6 (Dd :: fa) := x6D.ws
                    have x7D : XT G6 H6 (Dd :: fa) G7 H7 ((Dd :: fa) ++ fz) := by
                      have := x7.besideL (r := Dd :: fa) (by rw [List.append_nil]; exact wD6)
                      rw [List.append_nil] at this
                      exact this
                    have keep7 : H7 Dd = some (.lst ys) := by rw [x7.fr Dd (wD6.hn Dd List.mem_cons_self) (by simp)]; exact keepD
                    have rl7 : RepL K ct G7 H7 acc ys fa := rl6.mono x7.le fun a m => x7.fr a (wD6.hn a (List.mem_cons_of_mem _ m)) (by simp)
                    have x47 := x46.trans x7D
                    refine ⟨ys, keep7, by rw [rl7.length]; exact lim_line (Nat.lt_of_le_of_lt hacc (Nat.lt_trans hlt hlim)), ?_⟩
                    have w7 : WS G7 H7 (Dd :: (fa ++ fz)) := x7D.ws
                    have xw := XT.write (o := .lst (ys ++ [u])) w7 w7.nd fun a m => m
                    have ne : ∀ a, a ∈ fa ++ fz → a ≠ Dd := fun a m q => (List.nodup_cons.mp w7.nd).1 (q ▸ m)
                    have rl8 : RepL K ct G7 (upd H7 Dd (.lst (ys ++ [u]))) (acc ++ [z]) (ys ++ [u]) (fa ++ fz) := by
                      have q1 := rl7.mono (H' := upd H7 Dd (.lst (ys ++ [u]))) (Le.refl G7) fun a m => upd_ne (ne a (List.mem_append_left _ m))
                      have q2 := rz.mono (H' := upd H7 Dd (.lst (ys ++ [u]))) (Le.refl G7) fun a m => upd_ne (ne a (List.mem_append_right _ m))
                      exact q1.append ⟨u, [], fz, [], rfl, by rw [List.append_nil], q2, rfl, rfl⟩
                    exact ⟨items.length - (i + 1), by omega, rfl, hlt, G7, acc ++ [z], ys ++ [u], fa ++ fz, x47.trans xw, upd_same, rl8, by rw [List.length_append, List.length_singleton]; omega, p7⟩
          · refine .inl ⟨hstop i (by omega), ?_⟩
            have ed : items.drop i = [] := List.drop_eq_nil_of_le (by omega)
            rw [ed] at p4
            have p5 : PoE K ct G3 H3 [] σ W Q' (.ok (.lst true acc)) := p4
            exact p5 (.ref Dd) G' H' (Dd :: fa) x4 ⟨Dd, ys, fa, rfl, rfl, hD, rl4⟩
        · have p2 : PoE K ct G H [] σ W Q (if items.length < lim then lcGo (fun d => match asgP p d (wipeE α own) with
              | none => .bad
              | some α1 => (evB P b α1).bind fun k => if k = true then (evE P e α1).bind fun x => .ok (some x) else .ok none) items [] else .bad) := p1
          rw [if_neg hlim] at p2
          exact p2.elim
  · rw [if_neg hsl]
    exact fun G H σ fs Q w r p => p.elim

/-! ### tests -/
theorem sb_tt {W : WX} {α : Env} : SoB K ct tYes W α (.ok true) := fun G H σ fs Q w r p => p G H (XT.refl (WS.nil w.le))
theorem sb_e {W : WX} {α : Env} {te : TE} {o : R1 D} (h : SoE K ct te W α o) : SoB K ct (tTest te) W α (o.bind fun d => match d with
    | .bl k => .ok k
    | _ => .bad) := by
  refine so_bindEB (c := fun x _ H Q => ∃ k, x = .bl k ∧ Q k H) h fun d _ G H σ fs v f Q w r rd p => ?_
  cases d with
  | bl k =>
    obtain ⟨rfl, rfl⟩ := rd
    exact ⟨k, rfl, p G H (XT.refl w.left)⟩
  | _ => exact p.elim
theorem sb_and {W : WX} {α : Env} {ta tb : TT} {a b : R1 Bool} (h : SoB K ct ta W α a) (h' : SoB K ct tb W α b) : SoB K ct (tAnd ta tb) W α (a.bind fun k => if k = true then b else .ok false) := by
  refine so_bindBB (c := fun k σ H Q => if k = true then tb σ H Q else Q false H) h fun d _ => ?_
  cases d with
  | true => exact h'
  | false => exact fun G H σ fs Q w r p => p G H (XT.refl (WS.nil w.le))
theorem sb_or {W : WX} {α : Env} {ta tb : TT} {a b : R1 Bool} (h : SoB K ct ta W α a) (h' : SoB K ct tb W α b) : SoB K ct (tOr ta tb) W α (a.bind fun k => if k = true then .ok true else b) := by
  refine so_bindBB (c := fun k σ H Q => if k = true then Q true H else tb σ H Q) h fun d _ => ?_
  cases d with
  | true => exact fun G H σ fs Q w r p => p G H (XT.refl (WS.nil w.le))
  | false => exact h'
theorem sb_not {W : WX} {α : Env} {ta : TT} {a : R1 Bool} (h : SoB K ct ta W α a) : SoB K ct (tNot ta) W α (a.bind fun k => .ok (!k)) :=
  so_bindBB (c := fun k _ H Q => Q (!k) H) h fun d _ => fun G H σ fs Q w r p => p G H (XT.refl (WS.nil w.le))

/-! ### all together -/
structure Fit (O : Ops K ct) (P : Pg) : Prop where
  f : P.f = O.f
  fi : P.fi = O.fi
  cs : ∀ c, P.cs.contains c = true → ∃ C, ct c = some C
  sx : ∀ b c k, P.sx b c = some k → ∃ B C, ct b = some B ∧ ct c = some C ∧ PySem.W.exmOne K (.ref B) (.ref C) = some k
mutual
theorem sE (F : Fit O P) : ∀ (e : E) (W : WX) (α : Env), SoE K ct (semE O P W e) W α (evE P e α)
  | .c c, W, α => so_c
  | .v i, W, α => so_v
  | .brw i e, W, α => so_brw fun α' => sE F e W α'
  | .frz e, W, α => so_frz (sE F e W α)
  | .prim o es, W, α => so_prim F.f (sL F es W α)
  | .pm T o r es, W, α => so_pm F.f (sE F r W α) (sL F es W α)
  | .tup es, W, α => so_tup (sL F es W α)
  | .lst es, W, α => so_lst (sL F es W α)
  | .and_ a b, W, α => so_and (sE F a W α) (sE F b W α)
  | .or_ a b, W, α => so_or (sE F a W α) (sE F b W α)
  | .not_ a, W, α => so_not (sE F a W α)
  | .ife c a b, W, α => so_ife (sB F c W α) (sE F a W α) (sE F b W α)
  | .chain a b c, W, α => so_chain (sE F a W α) (sE F b W α) (sE F c W α)
  | .call f dvs es, W, α => so_call (sL F es W α)
  | .meth m dvs r es, W, α => so_meth (sE F r W α) (sL F es W α)
  | .make c f dvs es, W, α => so_make F.cs (sL F es W α)
  | .lc own p o es b e, W, α => so_lc F.fi (sL F es W α) (fun α' => sB F b W0 α') (fun α' => sE F e W0 α')
theorem sL (F : Fit O P) : ∀ (es : EL) (W : WX) (α : Env), SoL K ct (semL O P W es) W α (evL P es α)
  | .nil, W, α => so_nil
  | .cons e es, W, α => so_cons (sE F e W α) (sL F es W α)
theorem sB (F : Fit O P) : ∀ (b : B) (W : WX) (α : Env), SoB K ct (semB O P W b) W α (evB P b α)
  | .tt, W, α => sb_tt
  | .e e, W, α => sb_e (sE F e W α)
  | .and_ a b, W, α => sb_and (sB F a W α) (sB F b W α)
  | .or_ a b, W, α => sb_or (sB F a W α) (sB F b W α)
  | .not_ a, W, α => sb_not (sB F a W α)
end
end LD
namespace LD
open PySem PySem.Spec PyProof.Rows L2
variable {K : PySem.W.Frag} {ct : Str → Option Addr} {O : Ops K ct} {P : Pg}

/-! ### places in owned data -/
def D.kids : D → List D
  | .tup l => l
  | .lst _ l => l
  | .dct _ _ l => l
  | .ins _ _ _ l => l
  | _ => []
def D.own1 : D → Bool
  | .lst m _ => m
  | .dct m _ _ => m
  | .ins m _ _ _ => m
  | _ => false
def D.setKid : D → Nat → D → D
  | .tup l, k, x => .tup (l.set k x)
  | .lst m l, k, x => .lst m (l.set k x)
  | .dct m ks l, k, x => .dct m ks (l.set k x)
  | .ins m c fs l, k, x => .ins m c fs (l.set k x)
  | d, _, _ => d
/-- all above is owned; what stands there -/
def getAt : List Nat → D → Option D
  | [], d => some d
  | k :: p, d => if d.own1 = true then match d.kids[k]? with
    | some x => getAt p x
    | none => none else none
def setAt : List Nat → D → D → D
  | [], _, x => x
  | k :: p, d, x => match d.kids[k]? with
    | some y => d.setKid k (setAt p y x)
    | none => d
def kidV : HO → Nat → Option V
  | .lst xs, k => xs[k]?
  | .dK kvs, k => (kvs[k]?).map (·.2)
  | .ins _ _ fs, k => (fs[k]?).map (·.2)
  | _, _ => none
def vAt (H : Hp) : V → List Nat → Option V
  | v, [] => some v
  | .ref a, k :: p => match H a with
    | some o => match kidV o k with
      | some u => vAt H u p
      | none => none
    | none => none
  | _, _ :: _ => none
theorem zip_get {α β : Type} : ∀ {xs : List α} {ys : List β} {k : Nat} {y : β}, xs.length = ys.length → ys[k]? = some y → ∃ x, (xs.zip ys)[k]? = some (x, y)
  | [], [], _, _, _, h => by simp at h
  | x :: xs, y :: ys, 0, z, _, h => ⟨x, by simp at h; subst h; rfl⟩
  | x :: xs, y :: ys, k + 1, z, l, h => by
    obtain ⟨u, hu⟩ := zip_get (xs := xs) (ys := ys) (k := k) (by simpa using l) (by simpa using h)
    exact ⟨u, by simpa using hu⟩
/-- one step down -/
theorem RepD.kid {G H : Hp} {d d1 : D} {v : V} {f : List Addr} {k : Nat} (r : RepD K ct G H d v f) (ho : d.own1 = true) (hk : d.kids[k]? = some d1) :
    ∃ a o v1 fa f1 fb, v = .ref a ∧ H a = some o ∧ kidV o k = some v1 ∧ f = (a :: fa) ++ f1 ++ fb ∧ RepD K ct G H d1 v1 f1 ∧
      ∀ G' H' d2 f2, Le G G' → (∀ b, b ∈ (a :: fa) ++ fb → H' b = H b) → RepD K ct G' H' d2 v1 f2 → RepD K ct G' H' (d.setKid k d2) v ((a :: fa) ++ f2 ++ fb) := by
  cases d with
  | lst m l =>
    cases m with
    | false => cases ho
    | true =>
      obtain ⟨a, xs, f', rfl, rfl, e, rl⟩ := r
      obtain ⟨v1, fa, f1, fb, h1, rfl, h3, h4⟩ := rl.at (d := d1) hk
      refine ⟨a, _, v1, fa, f1, fb, rfl, e, h1, by simp, h3, fun G' H' d2 f2 le kk q => ?_⟩
      show RepD K ct G' H' (.lst true (l.set k d2)) _ _
      exact ⟨a, xs, fa ++ f2 ++ fb, rfl, by simp, by rw [kk a (by simp)]; exact e, h4 G' H' d2 f2 le (fun b m => kk b (by simp only [List.cons_append, List.mem_cons]; exact .inr m)) q⟩
  | dct m ks l =>
    cases m with
    | false => cases ho
    | true =>
      obtain ⟨a, xs, f', rfl, rfl, e, ll, rl⟩ := r
      obtain ⟨v1, fa, f1, fb, h1, rfl, h3, h4⟩ := rl.at (d := d1) hk
      obtain ⟨x, hx⟩ := zip_get (xs := ks) (ys := xs) (k := k) (by rw [ll, rl.length]) h1
      refine ⟨a, _, v1, fa, f1, fb, rfl, e, by show ((ks.zip xs)[k]?).map (·.2) = some v1; rw [hx]; rfl, by simp, h3, fun G' H' d2 f2 le kk q => ?_⟩
      show RepD K ct G' H' (.dct true ks (l.set k d2)) _ _
      exact ⟨a, xs, fa ++ f2 ++ fb, rfl, by simp, by rw [kk a (by simp)]; exact e, by rw [List.length_set]; exact ll, h4 G' H' d2 f2 le (fun b m => kk b (by simp only [List.cons_append, List.mem_cons]; exact .inr m)) q⟩
  | ins m c fs l =>
    cases m with
    | false => cases ho
    | true =>
      obtain ⟨a, C, dx, xs, f', rfl, rfl, cc, e, ll, rl⟩ := r
      obtain ⟨v1, fa, f1, fb, h1, rfl, h3, h4⟩ := rl.at (d := d1) hk
      obtain ⟨x, hx⟩ := zip_get (xs := fs) (ys := xs) (k := k) (by rw [ll, rl.length]) h1
      refine ⟨a, _, v1, fa, f1, fb, rfl, e, by show ((fs.zip xs)[k]?).map (·.2) = some v1; rw [hx]; rfl, by simp, h3, fun G' H' d2 f2 le kk q => ?_⟩
      show RepD K ct G' H' (.ins true c fs (l.set k d2)) _ _
      exact ⟨a, C, dx, xs, fa ++ f2 ++ fb, rfl, by simp, cc, by rw [kk a (by simp)]; exact e, by rw [List.length_set]; exact ll, h4 G' H' d2 f2 le (fun b m => kk b (by simp only [List.cons_append, List.mem_cons]; exact .inr m)) q⟩
  | _ => cases ho
theorem RepD.lens {G H : Hp} : ∀ {p : List Nat} {d d1 : D} {v : V} {f : List Addr}, RepD K ct G H d v f → getAt p d = some d1 →
    ∃ v1 fa f1 fb, vAt H v p = some v1 ∧ f = fa ++ f1 ++ fb ∧ RepD K ct G H d1 v1 f1 ∧
      ∀ G' H' d2 f2, Le G G' → (∀ b, b ∈ fa ++ fb → H' b = H b) → RepD K ct G' H' d2 v1 f2 → RepD K ct G' H' (setAt p d d2) v (fa ++ f2 ++ fb)
  | [], d, d1, v, f, r, h => by
    have e : d = d1 := Option.some.inj h
    subst e
    exact ⟨v, [], f, [], rfl, by simp, r, fun G' H' d2 f2 _ _ q => by
      show RepD K ct G' H' d2 v ([] ++ f2 ++ [])
      simpa using q⟩
  | k :: p, d, d1, v, f, r, h => by
    have h' : (if d.own1 = true then match d.kids[k]? with
      | some x => getAt p x
      | none => none else none) = some d1 := h
    by_cases ho : d.own1 = true
    · rw [if_pos ho] at h'
      cases hk : d.kids[k]? with
      | none => rw [hk] at h'; cases h'
      | some y =>
        rw [hk] at h'
        obtain ⟨a, o, u, fa, f1, fb, rfl, e1, e2, rfl, r1, up⟩ := r.kid ho hk
        obtain ⟨v1, ga, g1, gb, e3, rfl, r2, up2⟩ := RepD.lens (p := p) r1 h'
        refine ⟨v1, (a :: fa) ++ ga, g1, gb ++ fb, ?_, by simp [List.append_assoc], r2, fun G' H' d2 f2 le kk q => ?_⟩
        · show (match H a with
            | some o => match kidV o k with
              | some u => vAt H u p
              | none => none
            | none => none) = some v1
          rw [e1]
          show (match kidV o k with
              | some u => vAt H u p
              | none => none) = some v1
          rw [e2]; exact e3
        · have q2 := up2 G' H' d2 f2 le (fun b m => kk b (by
            rcases List.mem_append.mp m with z | z <;> simp [z])) q
          have q3 := up G' H' _ _ le (fun b m => kk b (by
            rcases List.mem_append.mp m with z | z
            · rcases List.mem_cons.mp z with rfl | z <;> simp_all
            · simp [z])) q2
          have es : setAt (k :: p) d d2 = d.setKid k (setAt p y d2) := by
            show (match d.kids[k]? with
              | some y => d.setKid k (setAt p y d2)
              | none => d) = _
            rw [hk]
          rw [es]
          have el : (a :: fa) ++ ga ++ f2 ++ (gb ++ fb) = (a :: fa) ++ (ga ++ f2 ++ gb) ++ fb := by simp [List.append_assoc]
          rw [el]; exact q3
    · rw [if_neg ho] at h'; cases h'
theorem vAt_mono {H H' : Hp} (h : ∀ a, H a ≠ none → H' a = H a) : ∀ {p : List Nat} {v u : V}, vAt H v p = some u → vAt H' v p = some u
  | [], _, _, e => e
  | k :: p, .ref a, u, e => by
    have e' : (match H a with
      | some o => match kidV o k with
        | some u => vAt H u p
        | none => none
      | none => none) = some u := e
    show (match H' a with
      | some o => match kidV o k with
        | some u => vAt H' u p
        | none => none
      | none => none) = some u
    cases ha : H a with
    | none => rw [ha] at e'; cases e'
    | some o =>
      rw [ha] at e'
      dsimp only at e'
      rw [h a (by rw [ha]; exact fun z => by cases z), ha]
      cases hk : kidV o k with
      | none => rw [hk] at e'; cases e'
      | some w =>
        rw [hk] at e'
        show (match kidV o k with
          | some u => vAt H' u p
          | none => none) = some u
        rw [hk]
        exact vAt_mono h e'
  | _ :: _, .non, _, e => by cases e
  | _ :: _, .bl _, _, e => by cases e
  | _ :: _, .int _, _, e => by cases e
  | _ :: _, .str _, _, e => by cases e
  | _ :: _, .byt _, _, e => by cases e
  | _ :: _, .flt _, _, e => by cases e
  | _ :: _, .ty _, _, e => by cases e
theorem vAt_snoc (H : Hp) : ∀ {p : List Nat} {v u w : V} {a : Addr} {o : HO} {k : Nat}, vAt H v p = some (.ref a) → H a = some o → kidV o k = some w → vAt H v (p ++ [k]) = some w
  | [], v, u, w, a, o, k, e, ha, hk => by
    have e' : v = .ref a := Option.some.inj e
    subst e'
    show (match H a with
      | some o => match kidV o k with
        | some u => vAt H u []
        | none => none
      | none => none) = some w
    rw [ha]
    show (match kidV o k with
        | some u => vAt H u []
        | none => none) = some w
    rw [hk]; rfl
  | j :: p, .ref b, u, w, a, o, k, e, ha, hk => by
    have e' : (match H b with
      | some o => match kidV o j with
        | some u => vAt H u p
        | none => none
      | none => none) = some (.ref a) := e
    show (match H b with
      | some o => match kidV o j with
        | some u => vAt H u (p ++ [k])
        | none => none
      | none => none) = some w
    cases hb : H b with
    | none => rw [hb] at e'; cases e'
    | some ob =>
      rw [hb] at e'
      cases hj : kidV ob j with
      | none =>
        have e2 : (match kidV ob j with
          | some u => vAt H u p
          | none => none) = some (.ref a) := e'
        rw [hj] at e2; cases e2
      | some x =>
        have e2 : (match kidV ob j with
          | some u => vAt H u p
          | none => none) = some (.ref a) := e'
        rw [hj] at e2
        show (match kidV ob j with
          | some u => vAt H u (p ++ [k])
          | none => none) = some w
        rw [hj]
        exact vAt_snoc H (u := u) e2 ha hk
  | _ :: _, .non, _, _, _, _, _, e, _, _ => by cases e
  | _ :: _, .bl _, _, _, _, _, _, e, _, _ => by cases e
  | _ :: _, .int _, _, _, _, _, _, e, _, _ => by cases e
  | _ :: _, .str _, _, _, _, _, _, e, _, _ => by cases e
  | _ :: _, .byt _, _, _, _, _, _, e, _, _ => by cases e
  | _ :: _, .flt _, _, _, _, _, _, e, _, _ => by cases e
  | _ :: _, .ty _, _, _, _, _, _, e, _, _ => by cases e

/-! ### places written -/
inductive Pst where
  | fld (f : Str) | ix (e : E)
def keyOf : D → Option Key
  | .int i => some (.inl i)
  | .str s => some (.inr s)
  | _ => none
/-- which child an index is -/
def ixKid : D → D → Option Nat
  | .lst _ l, .int i => ixN l.length i
  | .dct _ ks _, k => (keyOf k).bind fun k => ks.findIdx? fun j => decide (j = k)
  | _, _ => none
def fldKid (f : Str) : D → Option Nat
  | .ins _ c fs _ => if isX c = true then none else fs.findIdx? fun g => decide (g = f)
  | _ => none
def R1.map2 {β γ : Type} (f : β → γ) : R1 β → R1 γ
  | .ok a => .ok (f a)
  | .exc x => .exc x
  | .bad => .bad
/-- a path, from data on -/
def evPath (P : Pg) (α : Env) : List Pst → D → R1 (List Nat)
  | [], _ => .ok []
  | .fld f :: ps, d => match fldKid f d with
    | none => .bad
    | some k => match getAt [k] d with
      | none => .bad
      | some x => (evPath P α ps x).bind fun p => .ok (k :: p)
  | .ix e :: ps, d => (evE P e α).bind fun i => match ixKid d i with
    | none => .bad
    | some k => match getAt [k] d with
      | none => .bad
      | some x => (evPath P α ps x).bind fun p => .ok (k :: p)
def rFldQ (ct : Str → Option Addr) (f : Str) (x : V) (H : Hp) (Q : VK) : Prop := ∃ a C dx fs v, x = .ref a ∧ H a = some (.ins C dx fs) ∧ (∃ c, ct c = some C ∧ isX c = false) ∧ fs.lookup f = some v ∧ Q v H
def rIxQ (K : PySem.W.Frag) : R2 := fun x y H Q => rIxL K x y H Q ∨ rIxT K x y H Q ∨ rIxS x y H Q ∨ ∃ a v, x = .ref a ∧ DGet H a y (some v) ∧ Q v H
def semPath (O : Ops K ct) (P : Pg) (W : WX) : List Pst → TE → TE
  | [], t => t
  | .fld f :: ps, t => semPath O P W ps fun σ H Q => t σ H fun x H1 => rFldQ ct f x H1 Q
  | .ix e :: ps, t => semPath O P W ps fun σ H Q => t σ H fun x H1 => semE O P W e σ H1 fun y H2 => rIxQ K x y H2 Q

theorem findIdx_lookup {f : Str} : ∀ {fs : List Str} {xs : List V} {k : Nat} {v : V}, (fs.findIdx? fun g => decide (g = f)) = some k → xs[k]? = some v → (fs.zip xs).lookup f = some v
  | [], _, _, _, h, _ => by simp at h
  | g :: fs, [], k, v, _, h => by simp at h
  | g :: fs, x :: xs, k, v, h, h2 => by
    rw [List.findIdx?_cons] at h
    by_cases e : g = f
    · subst e
      simp at h
      subst h
      have : x = v := by simpa using h2
      subst this
      simp [List.lookup]
    · have e' : decide (g = f) = false := decide_eq_false e
      rw [e'] at h
      cases hr : fs.findIdx? fun g => decide (g = f) with
      | none => rw [hr] at h; simp at h
      | some j =>
        rw [hr] at h
        simp at h
        subst h
        have ne : (f == g) = false := by simpa using fun q : f = g => e q.symm
        rw [List.zip_cons_cons, List.lookup_cons, ne]
        exact findIdx_lookup hr (by simpa using h2)
theorem findIdx_val {κ : Type} [DecidableEq κ] {f : κ} : ∀ {fs : List κ} {xs : List V} {k : Nat} {v : V}, (fs.findIdx? fun g => decide (g = f)) = some k → xs[k]? = some v → valV (fs.zip xs) f = some v
  | [], _, _, _, h, _ => by simp at h
  | g :: fs, [], k, v, _, h => by simp at h
  | g :: fs, x :: xs, k, v, h, h2 => by
    rw [List.findIdx?_cons] at h
    by_cases e : g = f
    · subst e
      simp at h
      subst h
      have : x = v := by simpa using h2
      subst this
      rw [List.zip_cons_cons, valV_pos rfl]
    · have e' : decide (g = f) = false := decide_eq_false e
      rw [e'] at h
      cases hr : fs.findIdx? fun g => decide (g = f) with
      | none => rw [hr] at h; simp at h
      | some j =>
        rw [hr] at h
        simp at h
        subst h
        rw [List.zip_cons_cons, valV_neg e]
        exact findIdx_val hr (by simpa using h2)
theorem ixN_bound {n k : Nat} {i : Int} (h : ixN n i = some k) : k < n := by
  unfold ixN at h
  split at h
  · split at h
    · have := Option.some.inj h; omega
    · cases h
  · split at h
    · have := Option.some.inj h; omega
    · cases h
theorem getAt1 {k : Nat} {d x : D} (h : getAt [k] d = some x) : d.own1 = true ∧ d.kids[k]? = some x := by
  have h' : (if d.own1 = true then match d.kids[k]? with
    | some x => getAt [] x
    | none => none else none) = some x := h
  by_cases ho : d.own1 = true
  · rw [if_pos ho] at h'
    cases hk : d.kids[k]? with
    | none => rw [hk] at h'; cases h'
    | some y => rw [hk] at h'; exact ⟨ho, h'⟩
  · rw [if_neg ho] at h'; cases h'
/-- what a base reading gives: the value x, in an extension -/
def Bas (G H : Hp) (σ : L2.St) (x : V) (t : TE) : Prop := ∀ Q : VK, (∀ G' H', XT G H [] G' H' [] → Q x H') → t σ H Q
/-- where the way itself never comes through -/
theorem path_pass (O : Ops K ct) (P : Pg) (W : WX) (σ : L2.St) : ∀ (ps : List Pst) (t : TE) (H : Hp) (Q : VK), (∀ Q' : VK, t σ H Q') → semPath O P W ps t σ H Q
  | [], t, H, Q, b => b Q
  | .fld f :: ps, t, H, Q, b => path_pass O P W σ ps _ H Q fun Q' => b _
  | .ix e :: ps, t, H, Q, b => path_pass O P W σ ps _ H Q fun Q' => b _
theorem so_path (F : Fit O P) {W : WX} {α : Env} {G H : Hp} {σ : L2.St} {fs : List Addr} (w : WS G H fs) (r : RepS K ct G H α σ fs) :
    ∀ (ps : List Pst) (d : D) (x : V) (f : List Addr) (t : TE) (Q : VK), (∀ Q' : VK, (∀ G' H', XT G H [] G' H' [] → Q' x H') → t σ H Q') → RepD K ct G H d x f → (∀ a, a ∈ f → a ∈ fs) →
      (match evPath P α ps d with
        | .ok p => ∀ v1 G' H', XT G H [] G' H' [] → vAt H' x p = some v1 → Q v1 H'
        | .exc e => ∀ cls dx G' H' fp, XT G H [] G' H' fp → RepX K ct G' H' e cls dx fp → W cls dx σ H'
        | .bad => False) → semPath O P W ps t σ H Q
  | [], d, x, f, t, Q, b, rd, sub, po => b Q fun G' H' y => po x G' H' y rfl
  | .fld g :: ps, d, x, f, t, Q, b, rd, sub, po => by
    have po' : (match (match fldKid g d with
      | none => (R1.bad : R1 (List Nat))
      | some k => match getAt [k] d with
        | none => .bad
        | some x => (evPath P α ps x).bind fun p => .ok (k :: p)) with
        | .ok p => ∀ v1 G' H', XT G H [] G' H' [] → vAt H' x p = some v1 → Q v1 H'
        | .exc e => ∀ cls dx G' H' fp, XT G H [] G' H' fp → RepX K ct G' H' e cls dx fp → W cls dx σ H'
        | .bad => False) := po
    cases hk : fldKid g d with
    | none => rw [hk] at po'; exact po'.elim
    | some k =>
      rw [hk] at po'
      have po2 : (match (match getAt [k] d with
        | none => (R1.bad : R1 (List Nat))
        | some x => (evPath P α ps x).bind fun p => .ok (k :: p)) with
        | .ok p => ∀ v1 G' H', XT G H [] G' H' [] → vAt H' x p = some v1 → Q v1 H'
        | .exc e => ∀ cls dx G' H' fp, XT G H [] G' H' fp → RepX K ct G' H' e cls dx fp → W cls dx σ H'
        | .bad => False) := po'
      cases hg : getAt [k] d with
      | none => rw [hg] at po2; exact po2.elim
      | some y =>
        rw [hg] at po2
        obtain ⟨ho, hy⟩ := getAt1 hg
        obtain ⟨a, o, u, fa, f1, fb, rfl, e1, e2, rfl, r1, _⟩ := rd.kid ho hy
        refine so_path F w r ps y u f1 _ Q (fun Q' hQ' => b _ fun G' H' z => ?_) r1 (fun a m => sub a (by simp [m])) ?_
        · cases d with
          | ins m c fl l =>
            cases m with
            | false => cases ho
            | true =>
              have hxc : isX c = false := by
                cases hx : isX c with
                | false => rfl
                | true =>
                  have hk1 : (if isX c = true then none else fl.findIdx? fun g' => decide (g' = g)) = some k := hk
                  rw [if_pos hx] at hk1
                  cases hk1
              obtain ⟨a', C, dx, xs, f', q1, q2, cc, e, ll, rl⟩ := rd
              injection q1 with q1
              subst q1
              refine ⟨a, C, dx, _, u, rfl, by rw [z.fr a (by rw [e]; exact fun q => by cases q) (by simp)]; exact e, ⟨c, cc, hxc⟩, ?_, hQ' G' H' z⟩
              rw [e] at e1
              cases e1
              have e3 : ((fl.zip xs)[k]?).map (·.2) = some u := e2
              have hk' : (fl.findIdx? fun g' => decide (g' = g)) = some k := by
                have hk1 : (if isX c = true then none else fl.findIdx? fun g' => decide (g' = g)) = some k := hk
                rw [if_neg (by rw [hxc]; decide)] at hk1
                exact hk1
              refine findIdx_lookup hk' ?_
              cases hz : (fl.zip xs)[k]? with
              | none => rw [hz] at e3; cases e3
              | some q =>
                rw [hz] at e3
                have e4 : q.2 = u := Option.some.inj e3
                have := (List.getElem?_zip_eq_some.mp hz).2
                rw [this, e4]
          | lst _ _ => cases hk
          | dct _ _ _ => cases hk
          | _ => cases ho
        · dsimp only at po2
          cases hp : evPath P α ps y with
          | bad => rw [hp] at po2; exact po2
          | exc e => rw [hp] at po2; exact po2
          | ok p =>
            rw [hp] at po2
            intro v1 G' H' z hv
            refine po2 v1 G' H' z ?_
            show (match H' a with
              | some o => match kidV o k with
                | some u => vAt H' u p
                | none => none
              | none => none) = some v1
            rw [z.fr a (by rw [e1]; exact fun q => by cases q) (by simp), e1]
            show (match kidV o k with
                | some u => vAt H' u p
                | none => none) = some v1
            rw [e2]; exact hv
  | .ix e :: ps, d, x, f, t, Q, b, rd, sub, po => by
    have po' : (match (evE P e α).bind (fun i => match ixKid d i with
      | none => (R1.bad : R1 (List Nat))
      | some k => match getAt [k] d with
        | none => .bad
        | some x => (evPath P α ps x).bind fun p => .ok (k :: p)) with
        | .ok p => ∀ v1 G' H', XT G H [] G' H' [] → vAt H' x p = some v1 → Q v1 H'
        | .exc e => ∀ cls dx G' H' fp, XT G H [] G' H' fp → RepX K ct G' H' e cls dx fp → W cls dx σ H'
        | .bad => False) := po
    -- the base, then the index
    cases he : evE P e α with
    | bad => rw [he] at po'; exact po'.elim
    | exc ex =>
      rw [he] at po'
      refine path_pass O P W σ ps _ H Q fun Q' => b _ fun G1 H1 y1 => ?_
      have hs := sE F e W α
      rw [he] at hs
      obtain ⟨w1, r1⟩ := stay y1 w r
      exact hs G1 H1 σ fs _ w1 r1 fun cls dx G' H' fp z q => po' cls dx G' H' fp (y1.two z) q
    | ok i =>
      rw [he] at po'
      have po2 : (match (match ixKid d i with
        | none => (R1.bad : R1 (List Nat))
        | some k => match getAt [k] d with
          | none => .bad
          | some x => (evPath P α ps x).bind fun p => .ok (k :: p)) with
        | .ok p => ∀ v1 G' H', XT G H [] G' H' [] → vAt H' x p = some v1 → Q v1 H'
        | .exc e => ∀ cls dx G' H' fp, XT G H [] G' H' fp → RepX K ct G' H' e cls dx fp → W cls dx σ H'
        | .bad => False) := po'
      cases hk : ixKid d i with
      | none => rw [hk] at po2; exact po2.elim
      | some k =>
        rw [hk] at po2
        dsimp only at po2
        cases hg : getAt [k] d with
        | none => rw [hg] at po2; exact po2.elim
        | some y =>
          rw [hg] at po2
          dsimp only at po2
          obtain ⟨ho, hy⟩ := getAt1 hg
          obtain ⟨a, o, u, fa, f1, fb, rfl, e1, e2, rfl, r1, _⟩ := rd.kid ho hy
          refine so_path F w r ps y u f1 _ Q (fun Q' hQ' => b _ fun G1 H1 z1 => ?_) r1 (fun a m => sub a (by simp [m])) ?_
          · have hs := sE F e W α
            rw [he] at hs
            obtain ⟨w1, r1'⟩ := stay z1 w r
            refine hs G1 H1 σ fs _ w1 r1' fun yv G2 H2 fp z2 ri => ?_
            have z12 := (z1.two z2)
            have keep : ∀ a, H a ≠ none → H2 a = H a := fun a h => (z1.trans (z2.none)).fr a h (by simp)
            cases d with
            | lst m l =>
              cases m with
              | false => cases ho
              | true =>
                obtain ⟨a', xs, f', q1, q2, e3, rl⟩ := rd
                injection q1 with q1
                subst q1
                cases i with
                | int i =>
                  obtain ⟨rfl, _⟩ := ri
                  refine .inl ⟨a, xs, i, u, rfl, rfl, .inl (.inl (by rw [keep a (by rw [e3]; exact fun q => by cases q)]; exact e3)), ?_, hQ' _ _ ((z1.trans z2.none))⟩
                  rw [e3] at e1
                  cases e1
                  have hk' : ixN l.length i = some k := hk
                  unfold atI
                  rw [rl.length, hk']
                  exact e2
                | _ => cases hk
            | dct m ks l =>
              cases m with
              | false => cases ho
              | true =>
                obtain ⟨a', xs, f', q1, q2, e3, ll, rl⟩ := rd
                injection q1 with q1
                subst q1
                have hk' : ((keyOf i).bind fun k => ks.findIdx? fun j => decide (j = k)) = some k := hk
                cases hkey : keyOf i with
                | none => rw [hkey] at hk'; cases hk'
                | some kk =>
                  rw [hkey] at hk'
                  have hk2 : (ks.findIdx? fun j => decide (j = kk)) = some k := hk'
                  have ey : yv = kV kk := by
                    cases i with
                    | int i => obtain ⟨rfl, _⟩ := ri; cases hkey; rfl
                    | str s => obtain ⟨rfl, _⟩ := ri; cases hkey; rfl
                    | _ => cases hkey
                  subst ey
                  rw [e3] at e1
                  cases e1
                  have e4 : ((ks.zip xs)[k]?).map (·.2) = some u := e2
                  refine .inr (.inr (.inr ⟨a, u, rfl, .inl ⟨_, kk, .inl (by rw [keep a (by rw [e3]; exact fun q => by cases q)]; exact e3), rfl, ?_⟩, hQ' _ _ (z1.trans z2.none)⟩))
                  refine (findIdx_val hk2 ?_).symm
                  cases hz : (ks.zip xs)[k]? with
                  | none => rw [hz] at e4; cases e4
                  | some q =>
                    rw [hz] at e4
                    have e5 : q.2 = u := Option.some.inj e4
                    rw [(List.getElem?_zip_eq_some.mp hz).2, e5]
            | ins m c fl l => cases hk
            | _ => cases ho
          · cases hp : evPath P α ps y with
            | bad => rw [hp] at po2; exact po2
            | exc e => rw [hp] at po2; exact po2
            | ok p =>
              rw [hp] at po2
              intro v1 G' H' z hv
              refine po2 v1 G' H' z ?_
              show (match H' a with
                | some o => match kidV o k with
                  | some u => vAt H' u p
                  | none => none
                | none => none) = some v1
              rw [z.fr a (by rw [e1]; exact fun q => by cases q) (by simp), e1]
              show (match kidV o k with
                  | some u => vAt H' u p
                  | none => none) = some v1
              rw [e2]; exact hv
end LD
namespace LD
open PySem PySem.Spec PyProof.Rows L2
variable {K : PySem.W.Frag} {ct : Str → Option Addr} {O : Ops K ct} {P : Pg}

/-! ### arguments: values, what is handed over, what is lent -/
inductive RE (β : Type) where
  | ok (a : β) (α : Env) | exc (x : D) (α : Env) | bad
def RE.bind {β γ : Type} : RE β → (β → Env → RE γ) → RE γ
  | .ok a α, f => f a α
  | .exc x α, _ => .exc x α
  | .bad, _ => .bad
def R1.at {β : Type} : R1 β → Env → RE β
  | .ok a, α => .ok a α
  | .exc x, α => .exc x α
  | .bad, _ => .bad
inductive A where
  | e (e : E) | mv (i : Nat) | io (i : Nat) (p : List Pst)
inductive Itm where
  | val (d : D) | io (i : Nat) (p : List Nat)
def evA (P : Pg) : A → Env → RE Itm
  | .e e, α => match evE P e α with
    | .ok d => .ok (.val d) α
    | .exc x => .exc x α
    | .bad => .bad
  | .mv i, α => match α[i]? with
    | some (some d) => .ok (.val d) (α.set i none)
    | _ => .bad
  | .io i p, α => match α[i]? with
    | some (some d) => match evPath P α p d with
      | .ok q => .ok (.io i q) α
      | .exc x => .exc x α
      | .bad => .bad
    | _ => .bad
def evAs (P : Pg) : List A → Env → RE (List Itm)
  | [], α => .ok [] α
  | a :: as, α => (evA P a α).bind fun it α1 => (evAs P as α1).bind fun its α2 => .ok (it :: its) α2
abbrev Lent := Option (Nat × List Nat × D)
/-- what is handed to the callee; what stays; where it goes back -/
def take : List Itm → Env → Option (List D × Env × List Lent)
  | [], α => some ([], α, [])
  | .val d :: its, α => (take its α).map fun (ds, β, ls) => (d :: ds, β, none :: ls)
  | .io i p :: its, α => match α[i]? with
    | some (some d) => match getAt p d with
      | some x => (take its (α.set i none)).map fun (ds, β, ls) => (x :: ds, β, some (i, p, d) :: ls)
      | none => none
    | _ => none
def put : List Lent → List (Option D) → Env → Option Env
  | [], _, β => some β
  | none :: ls, fin, β => put ls fin.tail β
  | some (i, p, d) :: ls, some x :: fin, β => if i < β.length then put ls fin (β.set i (some (setAt p d x))) else none
  | some _ :: _, _, _ => none
def RF.back (ls : List Lent) (β : Env) : RF → RE D
  | .ok r fin => match put ls fin β with
    | some α => .ok r α
    | none => .bad
  | .exc x fin => match put ls fin β with
    | some α => .exc x α
    | none => .bad
  | .bad => .bad
def callC (P : Pg) (f : Str) (dvs : List Cst) (its : List Itm) (α : Env) : RE D := match take its α with
  | some (ds, β, ls) => (P.cal f (ds ++ dvs.map Cst.d)).back ls β
  | none => .bad
def semA (O : Ops K ct) (P : Pg) (W : WX) : A → TE
  | .e e => semE O P W e
  | .mv i => tVar i
  | .io i p => semPath O P W p (tVar i)
def semAs (O : Ops K ct) (P : Pg) (W : WX) : List A → TA
  | [] => tNil
  | a :: as => tCons (semA O P W a) (semAs O P W as)

def ItR (K : PySem.W.Frag) (ct : Str → Option Addr) (G H : Hp) (σ : L2.St) : List Itm → List V → List Addr → Prop
  | [], vs, fs => vs = [] ∧ fs = []
  | .val d :: its, vs, fs => ∃ v r f g, vs = v :: r ∧ fs = f ++ g ∧ RepD K ct G H d v f ∧ ItR K ct G H σ its r g
  | .io i p :: its, vs, fs => ∃ v r v0, vs = v :: r ∧ σ[i]? = some (some v0) ∧ vAt H v0 p = some v ∧ ItR K ct G H σ its r fs
def PoX (K : PySem.W.Frag) (ct : Str → Option Addr) (G H : Hp) (fs : List Addr) (σ : L2.St) (W : WX) (x : D) (α' : Env) : Prop :=
  ∀ cls dx G' H' fs' fp, XT G H fs G' H' (fs' ++ fp) → RepS K ct G' H' α' σ fs' → RepX K ct G' H' x cls dx fp → W cls dx σ H'
def PoA (K : PySem.W.Frag) (ct : Str → Option Addr) (G H : Hp) (fs : List Addr) (σ : L2.St) (W : WX) (Q : List V → Hp → Prop) : RE (List Itm) → Prop
  | .ok its α' => ∀ vs G' H' fs' ft, XT G H fs G' H' (fs' ++ ft) → (∀ a, H a ≠ none → H' a = H a) → RepS K ct G' H' α' σ fs' → ItR K ct G' H' σ its vs ft → Q vs H'
  | .exc x α' => PoX K ct G H fs σ W x α'
  | .bad => False
def PoA1 (K : PySem.W.Frag) (ct : Str → Option Addr) (G H : Hp) (fs : List Addr) (σ : L2.St) (W : WX) (Q : VK) : RE Itm → Prop
  | .ok it α' => ∀ v G' H' fs' ft, XT G H fs G' H' (fs' ++ ft) → (∀ a, H a ≠ none → H' a = H a) → RepS K ct G' H' α' σ fs' → ItR K ct G' H' σ [it] [v] ft → Q v H'
  | .exc x α' => PoX K ct G H fs σ W x α'
  | .bad => False
theorem st_of {G H G1 H1 : Hp} {f1 fs : List Addr} (x : XT G H [] G1 H1 f1) (w : WS G H fs) : XT G H fs G1 H1 (fs ++ f1) :=
  (x.beside (r := fs) (fs := []) w).permR List.perm_append_comm
theorem po_x_of {G H : Hp} {fs : List Addr} {σ : L2.St} {W : WX} {x : D} {α : Env} (w : WS G H fs) (r : RepS K ct G H α σ fs) (p : PoX K ct G H fs σ W x α) :
    ∀ cls dx G' H' fp, XT G H [] G' H' fp → RepX K ct G' H' x cls dx fp → W cls dx σ H' := fun cls dx G' H' fp y q => p cls dx G' H' fs fp (st_of y w) (stay y w r).2 q
theorem so_A (F : Fit O P) (W : WX) (α : Env) (a : A) : ∀ G H σ fs Q, WS G H fs → RepS K ct G H α σ fs → PoA1 K ct G H fs σ W Q (evA P a α) → semA O P W a σ H Q := by
  intro G H σ fs Q w r p
  cases a with
  | e e =>
    have p' : PoA1 K ct G H fs σ W Q (match evE P e α with
      | .ok d => .ok (.val d) α
      | .exc x => .exc x α
      | .bad => .bad) := p
    refine sE F e W α G H σ fs Q w r ?_
    cases he : evE P e α with
    | bad => rw [he] at p'; exact p'
    | exc x => rw [he] at p'; exact po_x_of w r p'
    | ok d =>
      rw [he] at p'
      exact fun v G1 H1 f x rd => p' v G1 H1 fs f (st_of x w) (fun a h => x.fr a h (by simp)) (stay x w r).2 ⟨v, [], f, [], rfl, by simp, rd, rfl, rfl⟩
  | mv i =>
    have p' : PoA1 K ct G H fs σ W Q (match α[i]? with
      | some (some d) => .ok (.val d) (α.set i none)
      | _ => .bad) := p
    cases hi : α[i]? with
    | none => rw [hi] at p'; exact p'.elim
    | some o =>
      cases o with
      | none => rw [hi] at p'; exact p'.elim
      | some d =>
        rw [hi] at p'
        obtain ⟨v, fa, f, fb, h1, h2, h3, h4⟩ := r.out hi
        subst h2
        refine ⟨v, h1, p' v G H (fa ++ fb) f ((XT.refl w).permR ?_) (fun _ _ => rfl) h4 ⟨v, [], f, [], rfl, by simp, h3, rfl, rfl⟩⟩
        rw [List.append_assoc, List.append_assoc]
        exact List.Perm.append_left fa List.perm_append_comm
  | io i p0 =>
    have p' : PoA1 K ct G H fs σ W Q (match α[i]? with
      | some (some d) => match evPath P α p0 d with
        | .ok q => .ok (.io i q) α
        | .exc x => .exc x α
        | .bad => .bad
      | _ => .bad) := p
    cases hi : α[i]? with
    | none => rw [hi] at p'; exact p'.elim
    | some o =>
      cases o with
      | none => rw [hi] at p'; exact p'.elim
      | some d =>
        rw [hi] at p'
        dsimp only at p'
        obtain ⟨v, fa, f, fb, h1, h2, h3, h4⟩ := r.at hi
        subst h2
        refine so_path F w r p0 d v f (tVar i) Q (fun Q' hQ' => ⟨v, h1, hQ' G H (XT.refl (WS.nil w.le))⟩) h3 (fun a m => by simp [m]) ?_
        cases hp : evPath P α p0 d with
        | bad => rw [hp] at p'; exact p'
        | exc x => rw [hp] at p'; exact po_x_of w r p'
        | ok q =>
          rw [hp] at p'
          intro v1 G1 H1 x hv
          refine p' v1 G1 H1 _ [] (st_of x w) (fun a h => x.fr a h (by simp)) (stay x w r).2 ⟨v1, [], v, rfl, h1, hv, rfl, rfl⟩
theorem ItR.later {G H G' H' : Hp} {σ : L2.St} (le : Le G G') (k : ∀ a, H a ≠ none → H' a = H a) : ∀ {its : List Itm} {vs : List V} {fs : List Addr}, (∀ a, a ∈ fs → H a ≠ none) → ItR K ct G H σ its vs fs → ItR K ct G' H' σ its vs fs
  | [], _, _, _, h => h
  | .val d :: its, _, _, hn, ⟨v, r, f, g, e, e0, rd, h⟩ => ⟨v, r, f, g, e, e0, rd.mono le fun a m => k a (hn a (by rw [e0]; exact List.mem_append_left _ m)), ItR.later le k (fun a m => hn a (by rw [e0]; exact List.mem_append_right _ m)) h⟩
  | .io i p :: its, _, _, hn, ⟨v, r, v0, e, e0, e1, h⟩ => ⟨v, r, v0, e, e0, vAt_mono k e1, ItR.later le k hn h⟩
theorem ItR.cons {G H : Hp} {σ : L2.St} {it : Itm} {its : List Itm} {v : V} {vs : List V} {f g : List Addr} (h : ItR K ct G H σ [it] [v] f) (h' : ItR K ct G H σ its vs g) : ItR K ct G H σ (it :: its) (v :: vs) (f ++ g) := by
  cases it with
  | val d =>
    obtain ⟨v', r, f', g', e, e0, rd, e1, e2⟩ := h
    injection e with e3 e4
    subst e3
    subst e2
    rw [e0, List.append_nil]
    exact ⟨v, vs, f', g, rfl, rfl, rd, h'⟩
  | io i p =>
    obtain ⟨v', r, v0, e, e0, e1, e2, e3⟩ := h
    injection e with e4 e5
    subst e4
    rw [e3, List.nil_append]
    exact ⟨v, vs, v0, rfl, e0, e1, h'⟩
theorem so_As (F : Fit O P) (W : WX) : ∀ (as : List A) (α : Env) G H σ fs Q, WS G H fs → RepS K ct G H α σ fs → PoA K ct G H fs σ W Q (evAs P as α) → semAs O P W as σ H Q
  | [], α, G, H, σ, fs, Q, w, r, p => p [] G H fs [] (by rw [List.append_nil]; exact XT.refl w) (fun _ _ => rfl) r ⟨rfl, rfl⟩
  | a :: as, α, G, H, σ, fs, Q, w, r, p => by
    have p' : PoA K ct G H fs σ W Q ((evA P a α).bind fun it α1 => (evAs P as α1).bind fun its α2 => .ok (it :: its) α2) := p
    refine so_A F W α a G H σ fs _ w r ?_
    cases ha : evA P a α with
    | bad => rw [ha] at p'; exact p'
    | exc x α1 => rw [ha] at p'; exact p'
    | ok it α1 =>
      rw [ha] at p'
      intro v G1 H1 fs1 f1 x1 k1 r1 i1
      have p2 : PoA K ct G H fs σ W Q ((evAs P as α1).bind fun its α2 => .ok (it :: its) α2) := p'
      refine so_As F W as α1 G1 H1 σ fs1 _ x1.ws.left r1 ?_
      cases hs : evAs P as α1 with
      | bad => rw [hs] at p2; exact p2
      | exc x α2 =>
        rw [hs] at p2
        intro cls dx G2 H2 fs2 fp y r2 q
        have y' := y.beside (r := f1) x1.ws
        refine p2 cls dx G2 H2 fs2 fp ((x1.trans y').drop (fun a m => ?_) ?_) r2 q
        · exact List.mem_append_left _ m
        · exact y.ws.nd
      | ok its α2 =>
        rw [hs] at p2
        intro vs G2 H2 fs2 f2 y k2 r2 i2
        have y' := y.beside (r := f1) x1.ws
        refine p2 (v :: vs) G2 H2 fs2 (f1 ++ f2) ((x1.trans y').permR ?_) (fun a h => ?_) r2 (ItR.cons (ItR.later y.le k2 (fun a m => x1.ws.hn a (List.mem_append_right _ m)) i1) i2)
        · rw [List.append_assoc]
          exact List.Perm.append_left fs2 List.perm_append_comm
        · have e := k1 a h
          rw [k2 a (by rw [e]; exact h), e]

/-! ### lent and given back -/
def CtxR (K : PySem.W.Frag) (ct : Str → Option Addr) (G H : Hp) (σ : L2.St) : List Lent → List V → List Addr → Prop
  | [], _, fc => fc = []
  | none :: ls, vs, fc => ∃ v r, vs = v :: r ∧ CtxR K ct G H σ ls r fc
  | some (i, p, d) :: ls, vs, fc => ∃ v r v0 fa fb g, vs = v :: r ∧ σ[i]? = some (some v0) ∧ fc = (fa ++ fb) ++ g ∧
      (∀ G' H' d2 f2, Le G G' → (∀ b, b ∈ fa ++ fb → H' b = H b) → RepD K ct G' H' d2 v f2 → RepD K ct G' H' (setAt p d d2) v0 (fa ++ f2 ++ fb)) ∧ CtxR K ct G H σ ls r g
theorem take_ok {G H : Hp} {σ : L2.St} : ∀ (its : List Itm) (vs : List V) (ft : List Addr) (α : Env) (fs : List Addr) (ds : List D) (β : Env) (ls : List Lent),
    take its α = some (ds, β, ls) → RepS K ct G H α σ fs → ItR K ct G H σ its vs ft → WS G H (fs ++ ft) →
    ∃ fa fr fc, RepL K ct G H ds vs fa ∧ RepS K ct G H β σ fr ∧ CtxR K ct G H σ ls vs fc ∧ (fs ++ ft).Perm (fa ++ (fr ++ fc)) ∧ β.length = α.length
  | [], vs, ft, α, fs, ds, β, ls, h, r, i, w => by
    obtain ⟨rfl, rfl⟩ := i
    cases h
    exact ⟨[], fs, [], ⟨rfl, rfl⟩, r, rfl, by simp, rfl⟩
  | .val d :: its, vs, ft, α, fs, ds, β, ls, h, r, i, w => by
    obtain ⟨v, r', f, g, rfl, rfl, rd, i'⟩ := i
    have h' : ((take its α).map fun (ds, β, ls) => (d :: ds, β, (none : Lent) :: ls)) = some (ds, β, ls) := h
    cases ht : take its α with
    | none => rw [ht] at h'; cases h'
    | some t =>
      obtain ⟨ds', β', ls'⟩ := t
      rw [ht] at h'
      cases h'
      obtain ⟨fa, fr, fc, h1, h2, h3, h4, h5⟩ := take_ok its r' g α fs ds' _ ls' ht r i' (w.sub (fun a m => by
        rcases List.mem_append.mp m with z | z <;> simp [z]) (by
        have := w.nd
        have q := List.nodup_append.mp this
        exact List.nodup_append.mpr ⟨q.1, (List.nodup_append.mp q.2.1).2.1, fun a m b m' => q.2.2 a m b (List.mem_append_right _ m')⟩))
      refine ⟨f ++ fa, fr, fc, ⟨v, r', f, fa, rfl, rfl, rd, h1⟩, h2, ⟨v, r', rfl, h3⟩, ?_, h5⟩
      have e1 : (fs ++ (f ++ g)).Perm (f ++ (fs ++ g)) := List.perm_append_comm_assoc fs f g
      exact e1.trans ((List.Perm.append_left f h4).trans (by rw [List.append_assoc]))
  | .io i p :: its, vs, ft, α, fs, ds, β, ls, h, r, it, w => by
    obtain ⟨v, r', v0, rfl, e0, e1, it'⟩ := it
    have h' : (match α[i]? with
      | some (some d) => match getAt p d with
        | some x => (take its (α.set i none)).map fun (ds, β, ls) => (x :: ds, β, (some (i, p, d) : Lent) :: ls)
        | none => none
      | _ => none) = some (ds, β, ls) := h
    cases hi : α[i]? with
    | none => rw [hi] at h'; cases h'
    | some o =>
      cases o with
      | none => rw [hi] at h'; cases h'
      | some d =>
        rw [hi] at h'
        dsimp only at h'
        cases hg : getAt p d with
        | none => rw [hg] at h'; cases h'
        | some x =>
          rw [hg] at h'
          dsimp only at h'
          cases ht : take its (α.set i none) with
          | none => rw [ht] at h'; cases h'
          | some t =>
            obtain ⟨ds', β', ls'⟩ := t
            rw [ht] at h'
            cases h'
            obtain ⟨v0', ga, f0, gb, q1, q2, q3, q4⟩ := r.out hi
            have ev : v0' = v0 := by rw [e0] at q1; exact (Option.some.inj (Option.some.inj q1)).symm
            subst ev
            obtain ⟨v1, fa, f1, fb, l1, l2, l3, l4⟩ := q3.lens hg
            have ev1 : v1 = v := by rw [l1] at e1; exact Option.some.inj e1
            subst ev1
            subst q2
            subst l2
            have w2 : WS G H ((ga ++ gb) ++ ft) := w.sub (fun a m => by
              simp only [List.mem_append] at m ⊢
              rcases m with (z | z) | z <;> simp [z]) (by
              have := w.nd
              simp only [List.nodup_append, List.mem_append] at this ⊢
              grind)
            obtain ⟨ha, hr, hc, h1, h2, h3, h4, h5⟩ := take_ok its r' ft (α.set i none) (ga ++ gb) ds' _ ls' ht q4 it' w2
            refine ⟨f1 ++ ha, hr, (fa ++ fb) ++ hc, ⟨v1, r', f1, ha, rfl, rfl, l3, h1⟩, h2, ⟨v1, r', v0', fa, fb, hc, rfl, e0, rfl, l4, h3⟩, ?_, by rw [h5, List.length_set]⟩
            -- the rows together
            have e2 : (ga ++ (fa ++ f1 ++ fb) ++ gb ++ ft).Perm (f1 ++ ((fa ++ fb) ++ ((ga ++ gb) ++ ft))) := by
              rw [List.perm_iff_count]
              intro a
              simp only [List.count_append]
              omega
            have e3 : ((fa ++ fb) ++ ((ga ++ gb) ++ ft)).Perm ((fa ++ fb) ++ (ha ++ (hr ++ hc))) := List.Perm.append_left _ h4
            refine e2.trans ((List.Perm.append_left f1 e3).trans ?_)
            rw [List.perm_iff_count]
            intro a
            simp only [List.count_append]
            omega
theorem set_same {σ : L2.St} {i : Nat} {x : Option V} (h : σ[i]? = some x) : σ.set i x = σ := by
  apply List.ext_getElem?
  intro j
  rw [List.getElem?_set]
  by_cases e : i = j
  · subst e
    rw [if_pos rfl, h]
    have hl := (List.getElem?_eq_some_iff.mp h).1
    rw [if_pos hl]
  · rw [if_neg e]
theorem put_ok {G H G' H' : Hp} {σ : L2.St} (le : Le G G') : ∀ (ls : List Lent) (vs : List V) (fc : List Addr) (fin : List (Option D)) (fs' : List Addr) (β β' : Env) (fr : List Addr),
    CtxR K ct G H σ ls vs fc → (∀ b, b ∈ fc → H' b = H b) → RepF K ct G' H' fin vs fs' → RepS K ct G' H' β σ fr → WS G' H' (fs' ++ (fr ++ fc)) → put ls fin β = some β' →
    ∃ gs, (∀ a, a ∈ gs → a ∈ fs' ++ (fr ++ fc)) ∧ gs.Nodup ∧ RepS K ct G' H' β' σ gs
  | [], vs, fc, fin, fs', β, β', fr, c, k, rf, r, w, h => by
    have e : β = β' := Option.some.inj h
    subst e
    exact ⟨fr, fun a m => by simp [m], w.right.left.nd, r⟩
  | none :: ls, vs, fc, fin, fs', β, β', fr, c, k, rf, r, w, h => by
    obtain ⟨v, r', rfl, c'⟩ := c
    have h' : put ls fin.tail β = some β' := h
    cases fin with
    | nil =>
      have e0 : fs' = [] := rf
      subst e0
      exact put_ok le ls r' fc [] [] β β' fr c' k rfl r w h'
    | cons o fin =>
      cases o with
      | none =>
        obtain ⟨x, r2, e, rf'⟩ := rf
        injection e with e e'
        subst e'
        exact put_ok le ls r' fc fin fs' β β' fr c' k rf' r w h'
      | some d =>
        obtain ⟨x, r2, f, g, e, e0, rd, rf'⟩ := rf
        injection e with e e'
        subst e'
        subst e0
        obtain ⟨gs, h1, h2, h3⟩ := put_ok le ls r' fc fin g β β' fr c' k rf' r (w.sub (fun a m => by
          simp only [List.mem_append] at m ⊢
          rcases m with z | z | z <;> simp [z]) (by
          have := w.nd
          simp only [List.nodup_append, List.mem_append] at this ⊢
          grind)) h'
        exact ⟨gs, fun a m => by
          have := h1 a m
          simp only [List.mem_append] at this ⊢
          rcases this with z | z | z <;> simp [z], h2, h3⟩
  | some (i, p, d) :: ls, vs, fc, fin, fs', β, β', fr, c, k, rf, r, w, h => by
    obtain ⟨v, r', v0, fa, fb, g, rfl, e0, rfl, up, c'⟩ := c
    cases fin with
    | nil => cases h
    | cons o fin =>
      cases o with
      | none => cases h
      | some x =>
        obtain ⟨v', r2, f, g2, e, e1, rd, rf'⟩ := rf
        injection e with e e'
        subst e
        subst e'
        subst e1
        have h' : (if i < β.length then put ls fin (β.set i (some (setAt p d x))) else none) = some β' := h
        by_cases hl : i < β.length
        · rw [if_pos hl] at h'
          have rd2 := up G' H' x f le (fun b m => k b (List.mem_append_left _ m)) rd
          have wn := w.nd
          obtain ⟨gs0, m1, m2, m3⟩ := RepS.put r rd2 hl (by
            simp only [List.nodup_append, List.mem_append] at wn ⊢
            grind)
          rw [set_same e0] at m3
          obtain ⟨gs, h1, h2, h3⟩ := put_ok le ls r' g fin g2 _ β' gs0 c' (fun b m => k b (List.mem_append_right _ m)) rf' m3 (w.sub (fun a m => by
            simp only [List.mem_append] at m ⊢
            rcases m with z | z | z
            · simp [z]
            · have := m1 a z
              simp only [List.mem_append] at this
              rcases this with ((q | q) | q) | q <;> simp [q]
            · simp [z]) (by
            simp only [List.nodup_append, List.mem_append] at wn m1 ⊢
            refine ⟨by grind, ⟨m2, by grind, ?_⟩, ?_⟩
            · intro a ha b hb e
              have := m1 a ha
              grind
            · intro a ha b hb e
              subst e
              rcases hb with hb | hb
              · have := m1 a hb
                grind
              · grind)) h'
          refine ⟨gs, fun a m => ?_, h2, h3⟩
          have := h1 a m
          simp only [List.mem_append] at this ⊢
          rcases this with z | z | z
          · simp [z]
          · have := m1 a z
            simp only [List.mem_append] at this
            rcases this with ((q | q) | q) | q <;> simp [q]
          · simp [z]
        · rw [if_neg hl] at h'; cases h'
end LD
namespace LD
open PySem PySem.Spec PyProof.Rows L2
variable {K : PySem.W.Frag} {ct : Str → Option Addr} {O : Ops K ct} {P : Pg}

/-! ### expressions that hand over, lend, call -/
mutual
inductive C where
  | e (e : E) | mv (i : Nat) | frz (c : C)
  | tup (cs : CL) | lst (cs : CL) | prim (o : POp) (cs : CL)
  | and_ (a b : C) | or_ (a b : C) | not_ (a : C)
  | call (f : Str) (dvs : List Cst) (as : List A)
  | meth (m : Str) (dvs : List Cst) (r : A) (as : List A)
inductive CL where
  | nil | cons (c : C) (cs : CL)
end
def itD (α : Env) : Itm → Option D
  | .val d => some d
  | .io i p => match α[i]? with
    | some (some d) => getAt p d
    | _ => none
mutual
def evC (P : Pg) : C → Env → RE D
  | .e e, α => (evE P e α).at α
  | .mv i, α => match α[i]? with
    | some (some d) => .ok d (α.set i none)
    | _ => .bad
  | .frz c, α => (evC P c α).bind fun d α => .ok d.freeze α
  | .tup cs, α => (evCL P cs α).bind fun ds α => if ds.length < lim then .ok (.tup ds) α else .bad
  | .lst cs, α => (evCL P cs α).bind fun ds α => if ds.length < lim then .ok (.lst true ds) α else .bad
  | .prim o cs, α => (evCL P cs α).bind fun ds α => match P.f o ds with
    | some d => .ok d α
    | none => .bad
  | .and_ a b, α => (evC P a α).bind fun d α => match d with
    | .bl true => evC P b α
    | .bl false => .ok (.bl false) α
    | _ => .bad
  | .or_ a b, α => (evC P a α).bind fun d α => match d with
    | .bl false => evC P b α
    | .bl true => .ok (.bl true) α
    | _ => .bad
  | .not_ a, α => (evC P a α).bind fun d α => match d with
    | .bl k => .ok (.bl (!k)) α
    | _ => .bad
  | .call f dvs as, α => (evAs P as α).bind fun its α => callC P f dvs its α
  | .meth m dvs r as, α => (evA P r α).bind fun it α => match itD α it with
    | none => .bad
    | some d => match clsOf d with
      | none => .bad
      | some c => if noField m d = true then match P.mt c m with
        | none => .bad
        | some f => (evAs P as α).bind fun its α => callC P f dvs (it :: its) α else .bad
def evCL (P : Pg) : CL → Env → RE (List D)
  | .nil, α => .ok [] α
  | .cons c cs, α => (evC P c α).bind fun d α => (evCL P cs α).bind fun ds α => .ok (d :: ds) α
end
section
variable (O : Ops K ct) (P : Pg)
mutual
def semC (W : WX) : C → TE
  | .e e => semE O P W e
  | .mv i => tVar i
  | .frz c => semC W c
  | .tup cs => tTup (semCL W cs)
  | .lst cs => tLst (semCL W cs)
  | .prim o cs => fun σ H Q => semCL W cs σ H fun vs H1 => O.r o vs H1 Q
  | .and_ a b => tAndV (semC W a) (semC W b)
  | .or_ a b => tOrV (semC W a) (semC W b)
  | .not_ a => tNotV (semC W a)
  | .call f dvs as => fun σ H Q => semAs O P W as σ H fun vs H1 => spI K ct P.cal f (vs ++ dvs.map Cst.v) H1 Q (WE W σ)
  | .meth m dvs r as => fun σ H Q => semA O P W r σ H fun x H1 => ∃ a c C dx fl f, x = .ref a ∧ H1 a = some (.ins C dx fl) ∧ ct c = some C ∧ P.mt c m = some f ∧ fl.lookup m = none ∧
      semAs O P W as σ H1 fun vs H2 => spI K ct P.cal f (x :: (vs ++ dvs.map Cst.v)) H2 Q (WE W σ)
def semCL (W : WX) : CL → TA
  | .nil => tNil
  | .cons c cs => tCons (semC W c) (semCL W cs)
end
end
def PoC (K : PySem.W.Frag) (ct : Str → Option Addr) (G H : Hp) (fs : List Addr) (σ : L2.St) (W : WX) (Q : VK) : RE D → Prop
  | .ok d α' => ∀ v G' H' fs' fp, XT G H fs G' H' (fs' ++ fp) → RepS K ct G' H' α' σ fs' → RepD K ct G' H' d v fp → Q v H'
  | .exc x α' => PoX K ct G H fs σ W x α'
  | .bad => False
def PoCL (K : PySem.W.Frag) (ct : Str → Option Addr) (G H : Hp) (fs : List Addr) (σ : L2.St) (W : WX) (Q : List V → Hp → Prop) : RE (List D) → Prop
  | .ok ds α' => ∀ vs G' H' fs' fp, XT G H fs G' H' (fs' ++ fp) → RepS K ct G' H' α' σ fs' → RepL K ct G' H' ds vs fp → Q vs H'
  | .exc x α' => PoX K ct G H fs σ W x α'
  | .bad => False
def SoC (K : PySem.W.Frag) (ct : Str → Option Addr) (te : TE) (W : WX) (α : Env) (o : RE D) : Prop := ∀ G H σ fs Q, WS G H fs → RepS K ct G H α σ fs → PoC K ct G H fs σ W Q o → te σ H Q
def SoCL (K : PySem.W.Frag) (ct : Str → Option Addr) (ta : TA) (W : WX) (α : Env) (o : RE (List D)) : Prop := ∀ G H σ fs Q, WS G H fs → RepS K ct G H α σ fs → PoCL K ct G H fs σ W Q o → ta σ H Q
theorem PoX.later {G H G1 H1 : Hp} {f0 f1 : List Addr} {σ : L2.St} {W : WX} {x : D} {α : Env} (y : XT G H f0 G1 H1 f1) (p : PoX K ct G H f0 σ W x α) : PoX K ct G1 H1 f1 σ W x α :=
  fun cls dx G' H' fs' fp z r q => p cls dx G' H' fs' fp (y.trans z) r q
theorem PoC.later {G H G1 H1 : Hp} {f0 f1 : List Addr} {σ : L2.St} {W : WX} {Q : VK} {o : RE D} (y : XT G H f0 G1 H1 f1) (p : PoC K ct G H f0 σ W Q o) : PoC K ct G1 H1 f1 σ W Q o := by
  cases o with
  | ok d α => exact fun v G' H' fs' fp z r q => p v G' H' fs' fp (y.trans z) r q
  | exc x α => exact PoX.later y p
  | bad => exact p
theorem PoCL.later {G H G1 H1 : Hp} {f0 f1 : List Addr} {σ : L2.St} {W : WX} {Q : List V → Hp → Prop} {o : RE (List D)} (y : XT G H f0 G1 H1 f1) (p : PoCL K ct G H f0 σ W Q o) : PoCL K ct G1 H1 f1 σ W Q o := by
  cases o with
  | ok d α => exact fun v G' H' fs' fp z r q => p v G' H' fs' fp (y.trans z) r q
  | exc x α => exact PoX.later y p
  | bad => exact p
/-- f beside is let go -/
theorem XT.letgo {G H : Hp} {f g : List Addr} (w : WS G H (f ++ g)) : XT G H (f ++ g) G H f := (XT.refl w).drop (fun a m => List.mem_append_left _ m) w.left.nd
theorem so_cbind {W : WX} {α : Env} {te : TE} {o : RE D} {k : D → Env → RE D} {c : V → L2.St → Hp → VK → Prop} (h : SoC K ct te W α o)
    (hk : ∀ d α1, o = .ok d α1 → ∀ G H σ fs v f Q, WS G H (fs ++ f) → RepS K ct G H α1 σ fs → RepD K ct G H d v f → PoC K ct G H (fs ++ f) σ W Q (k d α1) → c v σ H Q) : SoC K ct (fun σ H Q => te σ H fun v H1 => c v σ H1 Q) W α (o.bind k) := by
  intro G H σ fs Q w r p
  cases ho : o with
  | ok d α1 =>
    rw [ho] at p h
    exact h G H σ fs _ w r fun v G1 H1 fs1 f x r1 rd => hk d α1 ho G1 H1 σ fs1 v f Q x.ws r1 rd (PoC.later x p)
  | exc e α1 => rw [ho] at p h; exact h G H σ fs _ w r p
  | bad => rw [ho] at p; exact p.elim
theorem so_cbindL {W : WX} {α : Env} {te : TA} {o : RE (List D)} {k : List D → Env → RE D} {c : List V → L2.St → Hp → VK → Prop} (h : SoCL K ct te W α o)
    (hk : ∀ d α1, o = .ok d α1 → ∀ G H σ fs v f Q, WS G H (fs ++ f) → RepS K ct G H α1 σ fs → RepL K ct G H d v f → PoC K ct G H (fs ++ f) σ W Q (k d α1) → c v σ H Q) : SoC K ct (fun σ H Q => te σ H fun v H1 => c v σ H1 Q) W α (o.bind k) := by
  intro G H σ fs Q w r p
  cases ho : o with
  | ok d α1 =>
    rw [ho] at p h
    exact h G H σ fs _ w r fun v G1 H1 fs1 f x r1 rd => hk d α1 ho G1 H1 σ fs1 v f Q x.ws r1 rd (PoC.later x p)
  | exc e α1 => rw [ho] at p h; exact h G H σ fs _ w r p
  | bad => rw [ho] at p; exact p.elim
theorem sc_e (F : Fit O P) {W : WX} {α : Env} {e : E} : SoC K ct (semE O P W e) W α ((evE P e α).at α) := by
  intro G H σ fs Q w r p
  refine sE F e W α G H σ fs Q w r ?_
  cases he : evE P e α with
  | bad => rw [he] at p; exact p
  | exc x => rw [he] at p; exact po_x_of w r p
  | ok d =>
    rw [he] at p
    exact fun v G1 H1 f x rd => p v G1 H1 fs f (st_of x w) (stay x w r).2 rd
theorem sc_mv {W : WX} {α : Env} {i : Nat} : SoC K ct (tVar i) W α (match α[i]? with
    | some (some d) => .ok d (α.set i none)
    | _ => .bad) := by
  intro G H σ fs Q w r p
  cases hi : α[i]? with
  | none => rw [hi] at p; exact p.elim
  | some o =>
    cases o with
    | none => rw [hi] at p; exact p.elim
    | some d =>
      rw [hi] at p
      obtain ⟨v, fa, f, fb, h1, h2, h3, h4⟩ := r.out hi
      subst h2
      refine ⟨v, h1, p v G H (fa ++ fb) f ((XT.refl w).permR ?_) h4 h3⟩
      rw [List.append_assoc, List.append_assoc]
      exact List.Perm.append_left fa List.perm_append_comm
theorem sc_frz {W : WX} {α : Env} {te : TE} {o : RE D} (h : SoC K ct te W α o) : SoC K ct te W α (o.bind fun d α => .ok d.freeze α) := by
  refine so_cbind (c := fun v _ H Q => Q v H) h fun d α1 _ G H σ fs v f Q w r rd p => ?_
  have w' : WS G H (f ++ fs) := w.perm List.perm_append_comm
  have x := XT.frz w'
  refine p v _ H fs [] (by rw [List.append_nil]; exact x.permL fun a m => List.perm_append_comm.mem_iff.mp m) (r.mono x.le fun _ _ => rfl) (RepD.frz x.le rd fun a m => m)
theorem sc_tup {W : WX} {α : Env} {ta : TA} {o : RE (List D)} (h : SoCL K ct ta W α o) : SoC K ct (tTup ta) W α (o.bind fun ds α => if ds.length < lim then .ok (.tup ds) α else .bad) := by
  refine so_cbindL (c := fun xs _ H1 Q => xs.length ≤ sizeLine ∧ ∀ p, H1 p = none → Q (.ref p) (upd H1 p (.tup xs))) h fun ds α1 _ G H σ fs vs f Q w r rd p => ?_
  by_cases hl : ds.length < lim
  · rw [if_pos hl] at p
    refine ⟨by rw [rd.length]; exact Nat.le_of_lt (lim_line hl), fun q hq => ?_⟩
    have x := XT.newG (o := .tup vs) w hq
    have ne : ∀ a, a ∈ fs ++ f → upd H q (.tup vs) a = H a := fun a m => upd_ne fun e => w.hn a m (by rw [e]; exact hq)
    exact p _ _ _ fs f x (r.mono x.le fun a m => ne a (List.mem_append_left _ m)) ⟨q, vs, rfl, .inl (.inl upd_same), rd.mono x.le fun a m => ne a (List.mem_append_right _ m)⟩
  · rw [if_neg hl] at p
    exact p.elim
theorem sc_lst {W : WX} {α : Env} {ta : TA} {o : RE (List D)} (h : SoCL K ct ta W α o) : SoC K ct (tLst ta) W α (o.bind fun ds α => if ds.length < lim then .ok (.lst true ds) α else .bad) := by
  refine so_cbindL (c := fun xs _ H1 Q => xs.length ≤ sizeLine ∧ ∀ p, H1 p = none → Q (.ref p) (upd H1 p (.lst xs))) h fun ds α1 _ G H σ fs vs f Q w r rd p => ?_
  by_cases hl : ds.length < lim
  · rw [if_pos hl] at p
    refine ⟨by rw [rd.length]; exact Nat.le_of_lt (lim_line hl), fun q hq => ?_⟩
    have x := XT.new (o := .lst vs) w hq
    have ne : ∀ a, a ∈ fs ++ f → upd H q (.lst vs) a = H a := fun a m => upd_ne fun e => w.hn a m (by rw [e]; exact hq)
    exact p _ _ _ fs (q :: f) (x.permR (List.perm_middle.symm)) (r.mono x.le fun a m => ne a (List.mem_append_left _ m)) ⟨q, vs, f, rfl, rfl, upd_same, rd.mono x.le fun a m => ne a (List.mem_append_right _ m)⟩
  · rw [if_neg hl] at p
    exact p.elim
theorem sc_prim {W : WX} {α : Env} {ta : TA} {o : RE (List D)} {op : POp} (hf : P.f = O.f) (h : SoCL K ct ta W α o) : SoC K ct (fun σ H Q => ta σ H fun vs H1 => O.r op vs H1 Q) W α (o.bind fun ds α => match P.f op ds with
    | some d => .ok d α
    | none => .bad) := by
  refine so_cbindL (c := fun vs _ H Q => O.r op vs H Q) h fun ds α1 _ G H σ fs vs f Q w r rd p => ?_
  cases e : P.f op ds with
  | none => rw [e] at p; exact p.elim
  | some d =>
    rw [e] at p
    rw [hf] at e
    refine O.ok op G H ds vs f d w.right rd e Q fun v G' H' fp x rv => ?_
    exact p v G' H' fs fp (x.besideL w) (r.mono x.le fun a m => x.fr a (w.hn a (List.mem_append_left _ m)) fun z => w.apart m z) rv
theorem sc_and {W : WX} {α : Env} {ta tb : TE} {a : RE D} {b : Env → RE D} (h : SoC K ct ta W α a) (h' : ∀ α, SoC K ct tb W α (b α)) : SoC K ct (tAndV ta tb) W α (a.bind fun d α => match d with
    | .bl true => b α
    | .bl false => .ok (.bl false) α
    | _ => .bad) := by
  refine so_cbind (c := fun x σ H1 Q => ∃ c, x = .bl c ∧ if c = true then tb σ H1 Q else Q (.bl false) H1) h fun d α1 _ G H σ fs v f Q w r rd p => ?_
  cases d with
  | bl k =>
    obtain ⟨rfl, rfl⟩ := rd
    refine ⟨k, rfl, ?_⟩
    rw [List.append_nil] at w p
    cases k with
    | true => exact h' α1 G H σ fs Q w r p
    | false => exact p (.bl false) G H fs [] (by rw [List.append_nil]; exact XT.refl w) r ⟨rfl, rfl⟩
  | _ => exact p.elim
theorem sc_or {W : WX} {α : Env} {ta tb : TE} {a : RE D} {b : Env → RE D} (h : SoC K ct ta W α a) (h' : ∀ α, SoC K ct tb W α (b α)) : SoC K ct (tOrV ta tb) W α (a.bind fun d α => match d with
    | .bl false => b α
    | .bl true => .ok (.bl true) α
    | _ => .bad) := by
  refine so_cbind (c := fun x σ H1 Q => ∃ c, x = .bl c ∧ if c = true then Q (.bl true) H1 else tb σ H1 Q) h fun d α1 _ G H σ fs v f Q w r rd p => ?_
  cases d with
  | bl k =>
    obtain ⟨rfl, rfl⟩ := rd
    refine ⟨k, rfl, ?_⟩
    rw [List.append_nil] at w p
    cases k with
    | false => exact h' α1 G H σ fs Q w r p
    | true => exact p (.bl true) G H fs [] (by rw [List.append_nil]; exact XT.refl w) r ⟨rfl, rfl⟩
  | _ => exact p.elim
theorem sc_not {W : WX} {α : Env} {ta : TE} {a : RE D} (h : SoC K ct ta W α a) : SoC K ct (tNotV ta) W α (a.bind fun d α => match d with
    | .bl k => .ok (.bl (!k)) α
    | _ => .bad) := by
  refine so_cbind (c := fun x σ H1 Q => ∃ c, x = .bl c ∧ Q (.bl (!c)) H1) h fun d α1 _ G H σ fs v f Q w r rd p => ?_
  cases d with
  | bl k =>
    obtain ⟨rfl, rfl⟩ := rd
    rw [List.append_nil] at w p
    exact ⟨k, rfl, p (.bl (!k)) G H fs [] (by rw [List.append_nil]; exact XT.refl w) r ⟨rfl, rfl⟩⟩
  | _ => exact p.elim
theorem CtxR.ext {G H : Hp} {σ : L2.St} {us : List V} : ∀ {ls : List Lent} {vs : List V} {fc : List Addr}, CtxR K ct G H σ ls vs fc → CtxR K ct G H σ ls (vs ++ us) fc
  | [], _, _, h => h
  | none :: ls, _, _, ⟨v, r, e, h⟩ => ⟨v, r ++ us, by rw [e]; rfl, h.ext⟩
  | some (i, p, d) :: ls, _, _, ⟨v, r, v0, fa, fb, g, e, e0, e1, up, h⟩ => ⟨v, r ++ us, v0, fa, fb, g, by rw [e]; rfl, e0, e1, up, h.ext⟩
/-- a call with what is lent -/
theorem so_fin {W : WX} {α : Env} {G H : Hp} {σ : L2.St} {fs ft : List Addr} {Q : VK} {fn : Str} {dvs : List Cst} {its : List Itm} {vs : List V} (w : WS G H (fs ++ ft)) (r : RepS K ct G H α σ fs) (i : ItR K ct G H σ its vs ft)
    (p : PoC K ct G H (fs ++ ft) σ W Q (callC P fn dvs its α)) : spI K ct P.cal fn (vs ++ dvs.map Cst.v) H Q (WE W σ) := by
  have p1 : PoC K ct G H (fs ++ ft) σ W Q (match take its α with
    | some (ds, β, ls) => (P.cal fn (ds ++ dvs.map Cst.d)).back ls β
    | none => .bad) := p
  cases ht : take its α with
  | none => rw [ht] at p1; exact p1.elim
  | some t =>
    obtain ⟨ds, β, ls⟩ := t
    rw [ht] at p1
    dsimp only at p1
    obtain ⟨fa, fr, fc, h1, h2, h3, h4, h5⟩ := take_ok its vs ft α fs ds β ls ht r i w
    have w4 := w.perm h4
    have q := h1.append (RepL.csts G H dvs)
    rw [List.append_nil] at q
    have fin : ∀ G' H' fs' fp fin α2, XT G H fa G' H' (fs' ++ fp) → RepF K ct G' H' fin (vs ++ dvs.map Cst.v) fs' → put ls fin β = some α2 → ∃ gs, XT G H (fs ++ ft) G' H' (gs ++ fp) ∧ RepS K ct G' H' α2 σ gs := by
      intro G' H' fs' fp fin α2 x rf hp
      have x1 := x.beside w4
      have keep := x.keep w4
      have r1 : RepS K ct G' H' β σ fr := h2.mono x.le fun a m => keep a (List.mem_append_left _ m)
      have wn := x1.ws.nd
      obtain ⟨gs, m1, m2, m3⟩ := put_ok x.le ls (vs ++ dvs.map Cst.v) fc fin fs' β α2 fr h3.ext (fun b m => keep b (List.mem_append_right _ m)) rf r1 (x1.ws.sub (fun a m => by
        simp only [List.mem_append] at m ⊢
        rcases m with z | z | z <;> simp [z]) (by
        simp only [List.nodup_append, List.mem_append] at wn ⊢
        grind)) hp
      refine ⟨gs, (x1.permL (fun a m => h4.mem_iff.mpr m)).drop (fun a m => ?_) ?_, m3⟩
      · simp only [List.mem_append] at m m1 ⊢
        rcases m with z | z
        · rcases m1 a z with q | q | q <;> simp [q]
        · simp [z]
      · simp only [List.nodup_append, List.mem_append] at wn m1 ⊢
        refine ⟨m2, by grind, fun a ha b hb e => ?_⟩
        have := m1 a ha
        grind
    refine ⟨G, ds ++ dvs.map Cst.d, fa, w4.left, q, ?_⟩
    cases hc : P.cal fn (ds ++ dvs.map Cst.d) with
    | bad => rw [hc] at p1; exact p1
    | ok rr fn' =>
      rw [hc] at p1
      intro v G' H' fs' fp x rf rv
      have p2 : PoC K ct G H (fs ++ ft) σ W Q (match put ls fn' β with
        | some α => .ok rr α
        | none => .bad) := p1
      cases hp : put ls fn' β with
      | none => rw [hp] at p2; exact p2.elim
      | some α2 =>
        rw [hp] at p2
        obtain ⟨gs, y, ry⟩ := fin G' H' fs' fp fn' α2 x rf hp
        exact p2 v G' H' gs fp y ry rv
    | exc e fn' =>
      rw [hc] at p1
      intro cls dx G' H' fs' fp x rf rv
      have p2 : PoC K ct G H (fs ++ ft) σ W Q (match put ls fn' β with
        | some α => .exc e α
        | none => .bad) := p1
      cases hp : put ls fn' β with
      | none => rw [hp] at p2; exact p2.elim
      | some α2 =>
        rw [hp] at p2
        obtain ⟨gs, y, ry⟩ := fin G' H' fs' fp fn' α2 x rf hp
        exact p2 cls dx G' H' gs fp y ry rv
theorem sc_call (F : Fit O P) {W : WX} {α : Env} {fn : Str} {dvs : List Cst} {as : List A} : SoC K ct (fun σ H Q => semAs O P W as σ H fun vs H1 => spI K ct P.cal fn (vs ++ dvs.map Cst.v) H1 Q (WE W σ)) W α ((evAs P as α).bind fun its α => callC P fn dvs its α) := by
  intro G H σ fs Q w r p
  refine so_As F W as α G H σ fs _ w r ?_
  cases ha : evAs P as α with
  | bad => rw [ha] at p; exact p
  | exc x α1 => rw [ha] at p; exact p
  | ok its α1 =>
    rw [ha] at p
    intro vs G1 H1 fs1 ft x _ r1 i
    exact so_fin x.ws r1 i (PoC.later x p)
theorem itD_at {G H : Hp} {σ : L2.St} {α : Env} {fs ft : List Addr} {it : Itm} {v : V} {d : D} (r : RepS K ct G H α σ fs) (i : ItR K ct G H σ [it] [v] ft) (h : itD α it = some d) : ∃ f, RepD K ct G H d v f := by
  cases it with
  | val d' =>
    have e : d' = d := Option.some.inj h
    subst e
    obtain ⟨v', r', f, g, e1, e2, rd, _⟩ := i
    injection e1 with e1
    subst e1
    exact ⟨f, rd⟩
  | io j p =>
    obtain ⟨v', r', v0, e1, e2, e3, _⟩ := i
    injection e1 with e1
    subst e1
    have h' : (match α[j]? with
      | some (some d) => getAt p d
      | _ => none) = some d := h
    cases hi : α[j]? with
    | none => rw [hi] at h'; cases h'
    | some o =>
      cases o with
      | none => rw [hi] at h'; cases h'
      | some d0 =>
        rw [hi] at h'
        obtain ⟨v0', fa, f, fb, q1, q2, q3, q4⟩ := r.at hi
        rw [e2] at q1
        have ev : v0 = v0' := Option.some.inj (Option.some.inj q1)
        subst ev
        obtain ⟨v1, ga, f1, gb, l1, l2, l3, _⟩ := q3.lens h'
        rw [e3] at l1
        have ev1 : v = v1 := Option.some.inj l1
        subst ev1
        exact ⟨f1, l3⟩
theorem sc_meth (F : Fit O P) {W : WX} {α : Env} {m : Str} {dvs : List Cst} {ra : A} {as : List A} : SoC K ct (fun σ H Q => semA O P W ra σ H fun x H1 => ∃ a c C dx fl f, x = .ref a ∧ H1 a = some (.ins C dx fl) ∧ ct c = some C ∧ P.mt c m = some f ∧ fl.lookup m = none ∧
      semAs O P W as σ H1 fun vs H2 => spI K ct P.cal f (x :: (vs ++ dvs.map Cst.v)) H2 Q (WE W σ)) W α ((evA P ra α).bind fun it α => match itD α it with
    | none => .bad
    | some d => match clsOf d with
      | none => .bad
      | some c => if noField m d = true then match P.mt c m with
        | none => .bad
        | some f => (evAs P as α).bind fun its α => callC P f dvs (it :: its) α else .bad) := by
  intro G H σ fs Q w r p
  refine so_A F W α ra G H σ fs _ w r ?_
  cases ha : evA P ra α with
  | bad => rw [ha] at p; exact p
  | exc x α1 => rw [ha] at p; exact p
  | ok it α1 =>
    rw [ha] at p
    intro v G1 H1 fs1 f1 x k1 r1 i1
    have p1 := PoC.later x p
    have p2 : PoC K ct G1 H1 (fs1 ++ f1) σ W Q (match itD α1 it with
      | none => .bad
      | some d => match clsOf d with
        | none => .bad
        | some c => if noField m d = true then match P.mt c m with
          | none => .bad
          | some f => (evAs P as α1).bind fun its α => callC P f dvs (it :: its) α else .bad) := p1
    cases hd : itD α1 it with
    | none => rw [hd] at p2; exact p2.elim
    | some d =>
      rw [hd] at p2
      dsimp only at p2
      obtain ⟨fd, rd⟩ := itD_at r1 i1 hd
      cases hc : clsOf d with
      | none => rw [hc] at p2; exact p2.elim
      | some c =>
        rw [hc] at p2
        dsimp only at p2
        by_cases hn : noField m d = true
        · rw [if_pos hn] at p2
          obtain ⟨a, C, dx, fl, e1, e2, e3, e4⟩ := rd.inst x.ws.le hc hn
          cases hm : P.mt c m with
          | none => rw [hm] at p2; exact p2.elim
          | some g =>
            rw [hm] at p2
            dsimp only at p2
            refine ⟨a, c, C, dx, fl, g, e1, e2, e3, hm, e4, ?_⟩
            refine so_As F W as α1 G1 H1 σ fs1 _ x.ws.left r1 ?_
            cases hs : evAs P as α1 with
            | bad => rw [hs] at p2; exact p2
            | exc e α2 =>
              rw [hs] at p2
              intro cls dx G2 H2 fs2 fp y r2 q
              have y' := y.beside x.ws
              exact p2 cls dx G2 H2 fs2 fp (y'.drop (fun a m => List.mem_append_left _ m) y.ws.nd) r2 q
            | ok its α2 =>
              rw [hs] at p2
              intro vs G2 H2 fs2 f2 y k2 r2 i2
              have y' := (y.beside x.ws).permR (show ((fs2 ++ f2) ++ f1).Perm (fs2 ++ (f1 ++ f2)) by
                rw [List.append_assoc]
                exact List.Perm.append_left fs2 List.perm_append_comm)
              have ii := ItR.cons (ItR.later y.le k2 (fun a m => x.ws.hn a (List.mem_append_right _ m)) i1) i2
              exact so_fin (fn := g) (dvs := dvs) y'.ws r2 ii (PoC.later y' p2)
        · rw [if_neg hn] at p2
          exact p2.elim
theorem sc_nil {W : WX} {α : Env} : SoCL K ct tNil W α (.ok [] α) := fun G H σ fs Q w r p => p [] G H fs [] (by rw [List.append_nil]; exact XT.refl w) r ⟨rfl, rfl⟩
theorem sc_cons {W : WX} {α : Env} {te : TE} {ta : TA} {c : RE D} {cs : Env → RE (List D)} (h : SoC K ct te W α c) (h' : ∀ α, SoCL K ct ta W α (cs α)) : SoCL K ct (tCons te ta) W α (c.bind fun d α => (cs α).bind fun ds α => .ok (d :: ds) α) := by
  intro G H σ fs Q w r p
  cases hc : c with
  | bad => rw [hc] at p; exact p.elim
  | exc x α1 => rw [hc] at p h; exact h G H σ fs _ w r p
  | ok d α1 =>
    rw [hc] at p h
    refine h G H σ fs _ w r fun v G1 H1 fs1 f1 x r1 rd => ?_
    have p1 : PoCL K ct G1 H1 (fs1 ++ f1) σ W Q ((cs α1).bind fun ds α => .ok (d :: ds) α) := PoCL.later x p
    refine h' α1 G1 H1 σ fs1 _ x.ws.left r1 ?_
    cases hs : cs α1 with
    | bad => rw [hs] at p1; exact p1
    | exc e α2 =>
      rw [hs] at p1
      intro cls dx G2 H2 fs2 fp y r2 q
      have y' := y.beside x.ws
      exact p1 cls dx G2 H2 fs2 fp (y'.drop (fun a m => List.mem_append_left _ m) y.ws.nd) r2 q
    | ok ds α2 =>
      rw [hs] at p1
      intro vs G2 H2 fs2 f2 y r2 rl
      have y' := (y.beside x.ws).permR (show ((fs2 ++ f2) ++ f1).Perm (fs2 ++ (f1 ++ f2)) by
        rw [List.append_assoc]
        exact List.Perm.append_left fs2 List.perm_append_comm)
      refine p1 (v :: vs) G2 H2 fs2 (f1 ++ f2) y' r2 ⟨v, vs, f1, f2, rfl, rfl, rd.mono y.le fun a m => ?_, rl⟩
      exact y.fr a (x.ws.hn a (List.mem_append_right _ m)) fun z => x.ws.apart z m
mutual
theorem sC (F : Fit O P) (W : WX) : ∀ (c : C) (α : Env), SoC K ct (semC O P W c) W α (evC P c α)
  | .e e, α => sc_e F
  | .mv i, α => sc_mv
  | .frz c, α => sc_frz (sC F W c α)
  | .tup cs, α => sc_tup (sCL F W cs α)
  | .lst cs, α => sc_lst (sCL F W cs α)
  | .prim o cs, α => sc_prim F.f (sCL F W cs α)
  | .and_ a b, α => sc_and (sC F W a α) (sC F W b)
  | .or_ a b, α => sc_or (sC F W a α) (sC F W b)
  | .not_ a, α => sc_not (sC F W a α)
  | .call f dvs as, α => sc_call F
  | .meth m dvs r as, α => sc_meth F
theorem sCL (F : Fit O P) (W : WX) : ∀ (cs : CL) (α : Env), SoCL K ct (semCL O P W cs) W α (evCL P cs α)
  | .nil, α => sc_nil
  | .cons c cs, α => sc_cons (sC F W c α) (sCL F W cs)
end
end LD
namespace LD
open PySem PySem.Spec PyProof.Rows L2
variable {K : PySem.W.Frag} {ct : Str → Option Addr} {O : Ops K ct} {P : Pg}

/-! ### changes in place -/
inductive MOp where
  | append | insert | popL | popAt | popK | clearL | clearD | extend | update | remove | setI | setF (f : Str) | insPop
structure MO (K : PySem.W.Frag) (ct : Str → Option Addr) where
  r : MOp → V → List V → Hp → VK → Prop
  f : MOp → D → List D → Option (D × D)
  ok : ∀ (o : MOp) (G H : Hp) (d : D) (v : V) (f0 : List Addr) (ds : List D) (vs : List V) (g : List Addr) (d' u : D), WS G H (f0 ++ g) → RepD K ct G H d v f0 → RepL K ct G H ds vs g → f o d ds = some (d', u) →
    ∀ Q : VK, (∀ y G' H' f' fu, XT G H (f0 ++ g) G' H' (f' ++ fu) → RepD K ct G' H' d' v f' → RepD K ct G' H' u y fu → Q y H') → r o v vs H Q
/-! ### tests with effects -/
inductive T where
  | b (b : B) | c (c : C) | and_ (a b : T) | or_ (a b : T) | not_ (a : T)
def evT (P : Pg) : T → Env → RE Bool
  | .b b, α => (evB P b α).at α
  | .c c, α => (evC P c α).bind fun d α => match d with
    | .bl k => .ok k α
    | _ => .bad
  | .and_ a b, α => (evT P a α).bind fun k α => if k = true then evT P b α else .ok false α
  | .or_ a b, α => (evT P a α).bind fun k α => if k = true then .ok true α else evT P b α
  | .not_ a, α => (evT P a α).bind fun k α => .ok (!k) α
def semT (O : Ops K ct) (P : Pg) (W : WX) : T → TT
  | .b b => semB O P W b
  | .c c => tTest (semC O P W c)
  | .and_ a b => tAnd (semT O P W a) (semT O P W b)
  | .or_ a b => tOr (semT O P W a) (semT O P W b)
  | .not_ a => tNot (semT O P W a)
def PoT (K : PySem.W.Frag) (ct : Str → Option Addr) (G H : Hp) (fs : List Addr) (σ : L2.St) (W : WX) (Q : Bool → Hp → Prop) : RE Bool → Prop
  | .ok b α' => ∀ G' H' fs', XT G H fs G' H' fs' → RepS K ct G' H' α' σ fs' → Q b H'
  | .exc x α' => PoX K ct G H fs σ W x α'
  | .bad => False
theorem PoT.later {G H G1 H1 : Hp} {f0 f1 : List Addr} {σ : L2.St} {W : WX} {Q : Bool → Hp → Prop} {o : RE Bool} (y : XT G H f0 G1 H1 f1) (p : PoT K ct G H f0 σ W Q o) : PoT K ct G1 H1 f1 σ W Q o := by
  cases o with
  | ok d α => exact fun G' H' fs' z r => p G' H' fs' (y.trans z) r
  | exc x α => exact PoX.later y p
  | bad => exact p
theorem sT (F : Fit O P) (W : WX) : ∀ (t : T) (α : Env) G H σ fs Q, WS G H fs → RepS K ct G H α σ fs → PoT K ct G H fs σ W Q (evT P t α) → semT O P W t σ H Q
  | .b b, α, G, H, σ, fs, Q, w, r, p => by
    refine sB F b W α G H σ fs Q w r ?_
    have p' : PoT K ct G H fs σ W Q ((evB P b α).at α) := p
    cases he : evB P b α with
    | bad => rw [he] at p'; exact p'
    | exc x => rw [he] at p'; exact po_x_of w r p'
    | ok d =>
      rw [he] at p'
      intro G1 H1 x
      have y := st_of x w
      rw [List.append_nil] at y
      exact p' G1 H1 fs y (stay x w r).2
  | .c c, α, G, H, σ, fs, Q, w, r, p => by
    refine sC F W c α G H σ fs _ w r ?_
    have p' : PoT K ct G H fs σ W Q ((evC P c α).bind fun d α => match d with
      | .bl k => .ok k α
      | _ => .bad) := p
    cases he : evC P c α with
    | bad => rw [he] at p'; exact p'
    | exc x α1 => rw [he] at p'; exact p'
    | ok d α1 =>
      rw [he] at p'
      intro v G1 H1 fs1 f x r1 rd
      cases d with
      | bl k =>
        obtain ⟨rfl, rfl⟩ := rd
        rw [List.append_nil] at x
        exact ⟨k, rfl, p' G1 H1 fs1 x r1⟩
      | _ => exact p'.elim
  | .and_ a b, α, G, H, σ, fs, Q, w, r, p => by
    refine sT F W a α G H σ fs _ w r ?_
    have p' : PoT K ct G H fs σ W Q ((evT P a α).bind fun k α => if k = true then evT P b α else .ok false α) := p
    cases he : evT P a α with
    | bad => rw [he] at p'; exact p'
    | exc x α1 => rw [he] at p'; exact p'
    | ok k α1 =>
      rw [he] at p'
      intro G1 H1 fs1 x r1
      cases k with
      | true => exact sT F W b α1 G1 H1 σ fs1 Q x.ws r1 (PoT.later x p')
      | false => exact p' G1 H1 fs1 x r1
  | .or_ a b, α, G, H, σ, fs, Q, w, r, p => by
    refine sT F W a α G H σ fs _ w r ?_
    have p' : PoT K ct G H fs σ W Q ((evT P a α).bind fun k α => if k = true then .ok true α else evT P b α) := p
    cases he : evT P a α with
    | bad => rw [he] at p'; exact p'
    | exc x α1 => rw [he] at p'; exact p'
    | ok k α1 =>
      rw [he] at p'
      intro G1 H1 fs1 x r1
      cases k with
      | false => exact sT F W b α1 G1 H1 σ fs1 Q x.ws r1 (PoT.later x p')
      | true => exact p' G1 H1 fs1 x r1
  | .not_ a, α, G, H, σ, fs, Q, w, r, p => by
    refine sT F W a α G H σ fs _ w r ?_
    have p' : PoT K ct G H fs σ W Q ((evT P a α).bind fun k α => .ok (!k) α) := p
    cases he : evT P a α with
    | bad => rw [he] at p'; exact p'
    | exc x α1 => rw [he] at p'; exact p'
    | ok k α1 =>
      rw [he] at p'
      exact fun G1 H1 fs1 x r1 => p' G1 H1 fs1 x r1

/-! ### statements -/
inductive S where
  | skip | seq (a b : S) | asg (p : Pat) (c : C) | par (i j : Nat) (a b : E) | drop (c : C) | ret (c : C) | retN
  | ife (t : T) (a b : S) | for_ (p : Pat) (o : IOp) (es : EL) (b : S) | whl (t : T) (b : S) | brk | cnt
  | frz (i : Nat) (s : S)
  | mut (pt : Option Pat) (ty : Ty) (i : Nat) (ps : List Pst) (o : MOp) (as : List A)
  | setI (i : Nat) (ps : List Pst) (e : E) (c : C) | setF (i : Nat) (ps : List Pst) (f : Str) (c : C)
  | aug (i : Nat) (sub : Bool) (e : E) | augI (i : Nat) (ps : List Pst) (k : E) (sub : Bool) (e : E)
  | never
  | raise0 (c : Str) | raise1 (c f : Str) (a : C)
  | try_ (b : S) (c : Str) (i : Option Nat) (h : S)
  | bor (i : Nat) (s : S) | each (x i : Nat) (ps : List Pst) (ty : Ty) (o : MOp) | eachT (x i j : Nat) (ty : Ty) (o : MOp)
  | mutT (ty : Ty) (i j : Nat) (o : MOp) (es : EL)
inductive RS where
  | nx (α : Env) | ret (d : D) (α : Env) | brk (α : Env) | ct (α : Env) | exc (x : D) (α : Env) | bad
def RE.on {β : Type} : RE β → (β → Env → RS) → RS
  | .ok a α, f => f a α
  | .exc x α, _ => .exc x α
  | .bad, _ => .bad
def RS.then_ : RS → (Env → RS) → RS
  | .nx α, f => f α
  | o, _ => o
def forGo (f : D → Env → RS) : List D → Env → RS
  | [], α => .nx α
  | d :: r, α => match f d α with
    | .nx α' => forGo f r α'
    | .ct α' => forGo f r α'
    | .brk α' => .nx α'
    | o => o
def whGo (t : Env → RE Bool) (f : Env → RS) : Nat → Env → RS
  | 0, _ => .bad
  | n + 1, α => (t α).on fun k α => if k = true then match f α with
    | .nx α' => whGo t f n α'
    | .ct α' => whGo t f n α'
    | .brk α' => .nx α'
    | o => o
    else .nx α
/-- no exception leaves a walk over a dict -/
def gX (o : IOp) (r : RS) : RS := if o.dw = true then match r with
  | .exc _ _ => .bad
  | r => r
  else r
def asgR (p : Pat) (d : D) (α : Env) : RS := match asgP p d α with
  | some α' => .nx α'
  | none => .bad
def asgO : Option Pat → D → Env → RS
  | none, _, α => .nx α
  | some p, d, α => asgR p d α
def oSlots : Option Pat → List Nat
  | none => []
  | some p => p.slots
def gO (K : PySem.W.Frag) : Option Pat → V → L2.St → Hp → (L2.St → Hp → Prop) → Prop
  | none => fun _ σ H Q => Q σ H
  | some p => gP K p
def sgn (sub : Bool) (i j : Int) : Int := if sub = true then i - j else i + j
/-- a change in place, by its place -/
def mutAt (f : MOp → D → List D → Option (D × D)) (o : MOp) (i : Nat) (p : List Nat) (ds : List D) (α : Env) : Option (D × Env) := match α[i]? with
  | some (some d) => match getAt p d with
    | some x => match f o x ds with
      | some (x', u) => some (u, α.set i (some (setAt p d x')))
      | none => none
    | none => none
  | _ => none
def vals : List Itm → Option (List D)
  | [] => some []
  | .val d :: its => (vals its).map (d :: ·)
  | .io _ _ :: _ => none
/-- behind an except suite: no exception leaves it, its name goes -/
def outS : Option Nat → RS → RS
  | some j, .nx β => .nx (β.set j none)
  | some j, .ret d β => .ret d (β.set j none)
  | some j, .brk β => .brk (β.set j none)
  | some j, .ct β => .ct (β.set j none)
  | none, .nx β => .nx β
  | none, .ret d β => .ret d β
  | none, .brk β => .brk β
  | none, .ct β => .ct β
  | _, _ => .bad
def tryR (sx : Str → Str → Option Bool) (c : Str) (i : Option Nat) (h : Env → RS) : RS → RS
  | .exc (.ins m b fs ds) α => match sx b c with
    | some true => match i with
      | some j => if j < α.length then outS i (h (α.set j (some (.exn b fs (D.freezeL ds))))) else .bad
      | none => outS i (h α)
    | some false => .exc (.ins m b fs ds) α
    | none => .bad
  | .exc _ _ => .bad
  | o => o
def S.asgs : S → List Nat
  | .seq a b => a.asgs ++ b.asgs
  | .asg p _ => p.slots
  | .par i j _ _ => [i, j]
  | .ife _ a b => a.asgs ++ b.asgs
  | .for_ p _ _ b => p.slots ++ b.asgs
  | .whl _ b => b.asgs
  | .frz _ s => s.asgs
  | .mut pt _ _ _ _ _ => oSlots pt
  | .aug i _ _ => [i]
  | .bor _ s => s.asgs
  | .try_ b _ i h => b.asgs ++ (i.toList ++ h.asgs)
  | .each x _ _ _ _ => [x]
  | .eachT x _ _ _ _ => [x]
  | _ => []
/-- slot i was lent frozen while a statement ran: what the slots are behind it (i itself is left out) -/
def thawS (ga : List Nat) (i k : Nat) (r : Env) : Option D → Option D → Option Env
  | _, none => some (none :: r)
  | none, some d' => if k = i then some (none :: r) else if d'.clean = true then some (some d' :: r) else none
  | some d, some d' => if k = i then some (none :: r) else if d'.clean = true then some (some d' :: r) else if (d.fz && !ga.contains k) = true then some (some d :: r) else none
def thaw (ga : List Nat) (i : Nat) : Nat → Env → Env → Option Env
  | _, [], [] => some []
  | k, o :: α, o' :: α' => (thaw ga i (k + 1) α α').bind fun r => thawS ga i k r o o'
  | _, _, _ => none
/-- each of a row is changed -/
def eachD (mf : MOp → D → List D → Option (D × D)) (ty : Ty) (o : MOp) : List D → Option (List D)
  | [] => some []
  | d :: r => if tyD ty d = true then match mf o d [] with
    | some t => (eachD mf ty o r).map (t.1 :: ·)
    | none => none
    else none
def runS (P : Pg) (mf : MOp → D → List D → Option (D × D)) (n : Nat) : S → Env → RS
  | .skip, α => .nx α
  | .seq a b, α => (runS P mf n a α).then_ (runS P mf n b)
  | .asg p c, α => (evC P c α).on (asgR p)
  | .par i j a b, α => (evC P (.e a) α).on fun d α => (evC P (.e b) α).on fun e α => if (D.fz d && D.fz e) = true then if i < α.length ∧ j < α.length then .nx ((α.set i (some d)).set j (some e)) else .bad else .bad
  | .drop c, α => (evC P c α).on fun _ α => .nx α
  | .ret c, α => (evC P c α).on .ret
  | .retN, α => .ret .non α
  | .ife t a b, α => (evT P t α).on fun k α => if k = true then runS P mf n a α else runS P mf n b α
  | .for_ p o es b, α => match evL P es α with
    | .exc x => .exc x α
    | .bad => .bad
    | .ok ds => match P.fi o (D.freezeL ds) with
      | none => .bad
      | some items => gX o (forGo (fun d α => match asgP p d α with
        | none => .bad
        | some α1 => runS P mf n b α1) items α)
  | .whl t b, α => whGo (evT P t) (runS P mf n b) n α
  | .brk, α => .brk α
  | .cnt, α => .ct α
  | .frz i s, α => match α[i]? with
    | some (some d) => runS P mf n s (α.set i (some d.freeze))
    | _ => .bad
  | .mut pt ty i ps o as, α => match α[i]? with
    | some (some d) => match evPath P α ps d with
      | .bad => .bad
      | .exc x => .exc x α
      | .ok p => match getAt p d with
        | none => .bad
        | some x => if tyD ty x = true then (evAs P as α).on fun its α => match vals its with
          | none => .bad
          | some ds => match mutAt mf o i p ds α with
            | none => .bad
            | some (u, α) => asgO pt u α
          else .bad
    | _ => .bad
  | .setI i ps e c, α => (evC P c α).on fun y α => match α[i]? with
    | some (some d) => match evPath P α ps d with
      | .bad => .bad
      | .exc x => .exc x α
      | .ok p => match evE P e α with
        | .bad => .bad
        | .exc x => .exc x α
        | .ok k => match mutAt mf .setI i p [k, y] α with
          | none => .bad
          | some (_, α) => .nx α
    | _ => .bad
  | .setF i ps f c, α => (evC P c α).on fun y α => match α[i]? with
    | some (some d) => match evPath P α ps d with
      | .bad => .bad
      | .exc x => .exc x α
      | .ok p => match mutAt mf (.setF f) i p [y] α with
          | none => .bad
          | some (_, α) => .nx α
    | _ => .bad
  | .aug i sub e, α => match α[i]? with
    | some (some (.int x)) => match evE P e α with
      | .bad => .bad
      | .exc z => .exc z α
      | .ok (.int y) => .nx (α.set i (some (.int (sgn sub x y))))
      | .ok _ => .bad
    | _ => .bad
  | .augI i ps k sub e, α => match α[i]? with
    | some (some d) => match evPath P α ps d with
      | .bad => .bad
      | .exc x => .exc x α
      | .ok p => match getAt p d with
        | none => .bad
        | some nd => match evE P k α with
          | .bad => .bad
          | .exc x => .exc x α
          | .ok kd => match ixKid nd kd with
            | none => .bad
            | some j => match getAt [j] nd with
              | some (.int x) => match evE P e α with
                | .bad => .bad
                | .exc z => .exc z α
                | .ok (.int y) => match mutAt mf .setI i p [kd, .int (sgn sub x y)] α with
                  | none => .bad
                  | some (_, α) => .nx α
                | .ok _ => .bad
              | _ => .bad
    | _ => .bad
  | .never, _ => .bad
  | .bor i s, α => match α[i]? with
    | some (some d) => if s.asgs.contains i = true then .bad else match runS P mf n s (α.set i (some d.freeze)) with
      | .nx α' => match thaw s.asgs i 0 α α' with
        | some β => .nx (β.set i (some d))
        | none => .bad
      | .ret r α' => if r.clean = true then match thaw s.asgs i 0 α α' with
        | some β => .ret r (β.set i (some d))
        | none => .bad
        else .bad
      | _ => .bad
    | _ => .bad
  | .each x i ps ty o, α => match α[i]? with
    | some (some d) => match evPath P α ps d with
      | .ok p => match getAt p d with
        | some (.lst true items) => match eachD mf ty o items with
          | some items' => if x < α.length then .nx ((α.set i (some (setAt p d (.lst true items')))).set x none) else .bad
          | none => .bad
        | _ => .bad
      | _ => .bad
    | _ => .bad
  | .mutT ty i j o es, α => match α[i]? with
    | some (some (.tup l)) => match l[j]? with
      | some x => if tyD ty x = true then match evL P es α with
        | .bad => .bad
        | .exc e => .exc e α
        | .ok ds => match mf o x ds with
          | some t => .nx (α.set i (some (.tup (l.set j t.1))))
          | none => .bad
        else .bad
      | none => .bad
    | _ => .bad
  | .eachT x i j ty o, α => match α[i]? with
    | some (some (.tup l)) => match l[j]? with
      | some (.lst true items) => match eachD mf ty o items with
        | some items' => if x < α.length then .nx ((α.set i (some (.tup (l.set j (.lst true items'))))).set x none) else .bad
        | none => .bad
      | _ => .bad
    | _ => .bad
  | .try_ b c i h, α => tryR P.sx c i (runS P mf n h) (runS P mf n b α)
  | .raise0 c, α => if P.cs.contains c = true then .exc (.ins true c [] []) α else .bad
  | .raise1 c f a, α => if P.cs.contains c = true then (evC P a α).on fun d α => .exc (.ins true c [f] [d]) α else .bad

/-- o[k], for o[k] op= e -/
def rGetQ (K : PySem.W.Frag) : V → V → Hp → VK → Prop := fun x y H Q => rIxL K x y H Q ∨ ∃ a v, x = .ref a ∧ DGet H a y (some v) ∧ Q v H
/-- what an except clause wishes of an exception of the body -/
def eO : Option Nat → Ends → Ends
  | some j, D => { nx := fun σ' H' => D.nx (σ'.set j none) H', rt := D.rt, bk := fun σ' H' => D.bk (σ'.set j none) H', ct := fun σ' H' => D.ct (σ'.set j none) H' }
  | none, D => D
def sO : Option Nat → Addr → L2.St → L2.St
  | some j, a, σ => σ.set j (some (.ref a))
  | none, _, σ => σ
def wT (K : PySem.W.Frag) (ct : Str → Option Addr) (c : Str) (i : Option Nat) (ts : TS) (Wout : WX) (D : Ends) : WX := fun cls d σ H =>
  ∃ C b, ct c = some C ∧ PySem.W.exmOne K cls (.ref C) = some b ∧ (b = true → ∀ a, H a = none → ∃ B, cls = .ref B ∧ ts (eO i D) (sO i a σ) (upd H a (XO B d a))) ∧ (b = false → Wout cls d σ H)
section
variable (O : Ops K ct) (M : MO K ct) (P : Pg)
def semS (W : WX) : S → TS
  | .skip => tNext
  | .seq a b => tSeq (semS W a) (semS W b)
  | .asg p c => tAsg (semC O P W c) (gP K p)
  | .par i j a b => fun D σ H => semE O P W a σ H fun v H1 => semE O P W b σ H1 fun w H2 => D.nx ((σ.set i (some v)).set j (some w)) H2
  | .drop c => tDrop (semC O P W c)
  | .ret c => tRet (semC O P W c)
  | .retN => tRetN
  | .ife t a b => tIfS (semT O P W t) (semS W a) (semS W b)
  | .for_ p o es b => tUnl o.dw O.z (tFor (fun σ H R => semL O P W es σ H fun vs H1 => O.ri o vs H1 R) (gP K p) (semS W b))
  | .whl t b => tWhile (semT O P W t) (semS W b)
  | .brk => tBreak
  | .cnt => tCont
  | .frz _ s => semS W s
  | .mut pt ty i ps o as => fun D σ H => semPath O P W ps (tVar i) σ H fun x H1 => tyQ K ty.n x H1 ∧ semAs O P W as σ H1 fun vs H2 => M.r o x vs H2 fun u H3 => gO K pt u σ H3 D.nx
  | .setI i ps e c => fun D σ H => semC O P W c σ H fun y H1 => semPath O P W ps (tVar i) σ H1 fun x H2 => semE O P W e σ H2 fun k H3 => M.r .setI x [k, y] H3 fun _ H4 => D.nx σ H4
  | .setF i ps f c => fun D σ H => semC O P W c σ H fun y H1 => semPath O P W ps (tVar i) σ H1 fun x H2 => M.r (.setF f) x [y] H2 fun _ H4 => D.nx σ H4
  | .aug i sub e => tAug i (semE O P W e) (ipI fun a b => sgn sub a b)
  | .augI i ps k sub e => fun D σ H => semPath O P W ps (tVar i) σ H fun x H1 => semE O P W k σ H1 fun y H2 => rGetQ K x y H2 fun c H3 => semE O P W e σ H3 fun z H4 => ipI (fun a b => sgn sub a b) c z H4 fun u H5 => M.r .setI x [y, u] H5 fun _ H6 => D.nx σ H6
  | .never => tNever
  | .bor _ s => semS W s
  | .try_ b c i h => fun D σ H => semS (wT K ct c i (semS W0 h) W D) b D σ H
  | .each x i ps ty o => tFor (fun σ H R => semPath O P W ps (tVar i) σ H fun v H1 => ∃ a xs, v = .ref a ∧ SqL K H1 a xs ∧ R (Itl K a) H1) (gP K (.one x)) fun D σ H => tVar x σ H fun v H1 => tyQ K ty.n v H1 ∧ M.r o v [] H1 fun _ H3 => D.nx σ H3
  | .mutT ty i j o es => fun D σ H => semPath O P W [.ix (.c (.int (j : Int)))] (tVar i) σ H fun x H1 => tyQ K ty.n x H1 ∧ semL O P W es σ H1 fun vs H2 => M.r o x vs H2 fun _ H3 => D.nx σ H3
  | .eachT x i j ty o => tFor (fun σ H R => semPath O P W [.ix (.c (.int (j : Int)))] (tVar i) σ H fun v H1 => ∃ a xs, v = .ref a ∧ SqL K H1 a xs ∧ R (Itl K a) H1) (gP K (.one x)) fun D σ H => tVar x σ H fun v H1 => tyQ K ty.n v H1 ∧ M.r o v [] H1 fun _ H3 => D.nx σ H3
  | .raise0 c => fun D σ H => ∃ C, ct c = some C ∧ W (.ref C) none σ H
  | .raise1 c f a => fun D σ H => semC O P W a σ H fun v H1 => ∃ C, ct c = some C ∧ ∀ d, H1 d = none → W (.ref C) (some d) σ (upd H1 d (.xd [(f, v)]))
end
end LD
namespace LD
open PySem PySem.Spec PyProof.Rows L2
variable {K : PySem.W.Frag} {ct : Str → Option Addr} {O : Ops K ct} {M : MO K ct} {P : Pg}

abbrev Pin (pins : List Nat) (σ σ' : L2.St) : Prop := ∀ i, i ∈ pins → σ'[i]? = σ[i]?
def PoS (K : PySem.W.Frag) (ct : Str → Option Addr) (G H : Hp) (fs : List Addr) (σ : L2.St) (W : WX) (En : Ends) (pins : List Nat) : RS → Prop
  | .nx α' => ∀ σ' G' H' fs', XT G H fs G' H' fs' → RepS K ct G' H' α' σ' fs' → Pin pins σ σ' → En.nx σ' H'
  | .ret d α' => ∀ v σ' G' H' fs' fp, XT G H fs G' H' (fs' ++ fp) → RepS K ct G' H' α' σ' fs' → RepD K ct G' H' d v fp → Pin pins σ σ' → En.rt v H'
  | .brk α' => ∀ σ' G' H' fs', XT G H fs G' H' fs' → RepS K ct G' H' α' σ' fs' → Pin pins σ σ' → En.bk σ' H'
  | .ct α' => ∀ σ' G' H' fs', XT G H fs G' H' fs' → RepS K ct G' H' α' σ' fs' → Pin pins σ σ' → En.ct σ' H'
  | .exc x α' => ∀ cls dx σ' G' H' fs' fp, XT G H fs G' H' (fs' ++ fp) → RepS K ct G' H' α' σ' fs' → RepX K ct G' H' x cls dx fp → Pin pins σ σ' → W cls dx σ' H'
  | .bad => False
theorem PoS.later {G H G1 H1 : Hp} {f0 f1 : List Addr} {σ σ1 : L2.St} {W : WX} {En : Ends} {pins : List Nat} {o : RS} (y : XT G H f0 G1 H1 f1) (k : Pin pins σ σ1) (p : PoS K ct G H f0 σ W En pins o) : PoS K ct G1 H1 f1 σ1 W En pins o := by
  cases o with
  | nx α => exact fun σ' G' H' fs' z r q => p σ' G' H' fs' (y.trans z) r fun i m => (q i m).trans (k i m)
  | ret d α => exact fun v σ' G' H' fs' fp z r rd q => p v σ' G' H' fs' fp (y.trans z) r rd fun i m => (q i m).trans (k i m)
  | brk α => exact fun σ' G' H' fs' z r q => p σ' G' H' fs' (y.trans z) r fun i m => (q i m).trans (k i m)
  | ct α => exact fun σ' G' H' fs' z r q => p σ' G' H' fs' (y.trans z) r fun i m => (q i m).trans (k i m)
  | exc x α => exact fun cls dx σ' G' H' fs' fp z r rd q => p cls dx σ' G' H' fs' fp (y.trans z) r rd fun i m => (q i m).trans (k i m)
  | bad => exact p
theorem PoS.x {G H : Hp} {fs : List Addr} {σ : L2.St} {W : WX} {En : Ends} {pins : List Nat} {x : D} {α : Env} (p : PoS K ct G H fs σ W En pins (.exc x α)) : PoX K ct G H fs σ W x α :=
  fun cls dx G' H' fs' fp z r q => p cls dx σ G' H' fs' fp z r q fun _ _ => rfl
def SoS (K : PySem.W.Frag) (ct : Str → Option Addr) (ts : TS) (W : WX) (α : Env) (o : RS) (asg : List Nat) : Prop := ∀ G H σ fs (En : Ends) pins, WS G H fs → RepS K ct G H α σ fs → (∀ i, i ∈ pins → i ∉ asg) → PoS K ct G H fs σ W En pins o → ts En σ H
/-- a value, then a statement's rest -/
theorem ss_on {W : WX} {α : Env} {te : TE} {o : RE D} {k : D → Env → RS} {c : V → TS} {asg : List Nat} (h : SoC K ct te W α o)
    (hk : ∀ d α1, o = .ok d α1 → ∀ G H σ fs v f En pins, WS G H (fs ++ f) → RepS K ct G H α1 σ fs → RepD K ct G H d v f → (∀ i, i ∈ pins → i ∉ asg) → PoS K ct G H (fs ++ f) σ W En pins (k d α1) → c v En σ H) : SoS K ct (fun En σ H => te σ H fun v H1 => c v En σ H1) W α (o.on k) asg := by
  intro G H σ fs En pins w r pn p
  cases ho : o with
  | ok d α1 =>
    rw [ho] at p h
    exact h G H σ fs _ w r fun v G1 H1 fs1 f x r1 rd => hk d α1 ho G1 H1 σ fs1 v f En pins x.ws r1 rd pn (PoS.later x (fun _ _ => rfl) p)
  | exc e α1 => rw [ho] at p h; exact h G H σ fs _ w r (PoS.x p)
  | bad => rw [ho] at p; exact p.elim
theorem ss_asgR {W : WX} {p : Pat} {G H : Hp} {σ : L2.St} {fs f : List Addr} {v : V} {d : D} {α : Env} {En : Ends} {pins : List Nat} (w : WS G H (fs ++ f)) (r : RepS K ct G H α σ fs) (rd : RepD K ct G H d v f) (pn : ∀ i, i ∈ pins → i ∉ p.slots)
    (po : PoS K ct G H (fs ++ f) σ W En pins (asgR p d α)) : gP K p v σ H En.nx := by
  have po' : PoS K ct G H (fs ++ f) σ W En pins (match asgP p d α with
    | some α' => .nx α'
    | none => .bad) := po
  cases ha : asgP p d α with
  | none => rw [ha] at po'; exact po'.elim
  | some α' =>
    rw [ha] at po'
    refine sP p G H σ fs v d f α α' _ (w.perm List.perm_append_comm) rd r ha fun σ' gs m n s k l => ?_
    exact po' σ' G H gs ((XT.refl w).drop (fun a ma => List.perm_append_comm.mem_iff.mp (m a ma)) n) s fun i mi => k i (pn i mi)
theorem ss_asg (F : Fit O P) {W : WX} {α : Env} {p : Pat} {c : C} : SoS K ct (tAsg (semC O P W c) (gP K p)) W α ((evC P c α).on (asgR p)) p.slots :=
  ss_on (c := fun v En σ H => gP K p v σ H En.nx) (sC F W c α) fun d α1 _ G H σ fs v f En pins w r rd pn po => ss_asgR w r rd pn po
theorem ss_drop (F : Fit O P) {W : WX} {α : Env} {c : C} : SoS K ct (tDrop (semC O P W c)) W α ((evC P c α).on fun _ α => .nx α) [] :=
  ss_on (c := fun v En σ H => En.nx σ H) (sC F W c α) fun d α1 _ G H σ fs v f En pins w r rd pn po => po σ G H fs (XT.letgo w) r fun _ _ => rfl
theorem ss_ret (F : Fit O P) {W : WX} {α : Env} {c : C} : SoS K ct (tRet (semC O P W c)) W α ((evC P c α).on .ret) [] :=
  ss_on (c := fun v En σ H => En.rt v H) (sC F W c α) fun d α1 _ G H σ fs v f En pins w r rd pn po => po v σ G H fs f (XT.refl w) r rd fun _ _ => rfl
theorem ss_seq {W : WX} {α : Env} {a b : TS} {oa : RS} {ob : Env → RS} {ga gb : List Nat} (h : SoS K ct a W α oa ga) (h' : ∀ α, SoS K ct b W α (ob α) gb) : SoS K ct (tSeq a b) W α (oa.then_ ob) (ga ++ gb) := by
  intro G H σ fs En pins w r pn p
  have pa : ∀ i, i ∈ pins → i ∉ ga := fun i m z => pn i m (List.mem_append_left _ z)
  have pb : ∀ i, i ∈ pins → i ∉ gb := fun i m z => pn i m (List.mem_append_right _ z)
  refine h G H σ fs _ pins w r pa ?_
  cases oa with
  | nx α1 => exact fun σ' G' H' fs' x r1 k => h' α1 G' H' σ' fs' En pins x.ws r1 pb (PoS.later x k p)
  | ret d α1 => exact p
  | brk α1 => exact p
  | ct α1 => exact p
  | exc x α1 => exact p
  | bad => exact p.elim
theorem ss_ife (F : Fit O P) {W : WX} {α : Env} {t : T} {a b : TS} {oa ob : Env → RS} {ga gb : List Nat} (h : ∀ α, SoS K ct a W α (oa α) ga) (h' : ∀ α, SoS K ct b W α (ob α) gb) :
    SoS K ct (tIfS (semT O P W t) a b) W α ((evT P t α).on fun k α => if k = true then oa α else ob α) (ga ++ gb) := by
  intro G H σ fs En pins w r pn p
  have pa : ∀ i, i ∈ pins → i ∉ ga := fun i m z => pn i m (List.mem_append_left _ z)
  have pb : ∀ i, i ∈ pins → i ∉ gb := fun i m z => pn i m (List.mem_append_right _ z)
  refine sT F W t α G H σ fs _ w r ?_
  cases ht : evT P t α with
  | bad => rw [ht] at p; exact p
  | exc x α1 => rw [ht] at p; exact (PoS.x p)
  | ok k α1 =>
    rw [ht] at p
    intro G1 H1 fs1 x r1
    cases k with
    | true => exact h α1 G1 H1 σ fs1 En pins x.ws r1 pa (PoS.later x (fun _ _ => rfl) p)
    | false => exact h' α1 G1 H1 σ fs1 En pins x.ws r1 pb (PoS.later x (fun _ _ => rfl) p)
theorem ss_frz {W : WX} {α : Env} {i : Nat} {a : TS} {oa : Env → RS} {ga : List Nat} (h : ∀ α, SoS K ct a W α (oa α) ga) : SoS K ct a W α (match α[i]? with
    | some (some d) => oa (α.set i (some d.freeze))
    | _ => .bad) ga := by
  intro G H σ fs En pins w r pn p
  cases hi : α[i]? with
  | none => rw [hi] at p; exact p.elim
  | some o =>
    cases o with
    | none => rw [hi] at p; exact p.elim
    | some d =>
      rw [hi] at p
      obtain ⟨v0, fa, f, fb, h1, h2, h3, h4⟩ := r.at hi
      subst h2
      have w' : WS G H (f ++ (fa ++ fb)) := w.perm (by
        rw [List.append_assoc]
        exact (List.perm_append_comm_assoc fa f fb))
      have x1 := XT.frz w'
      have r1 : RepS K ct (frozen G H f) H (α.set i (some d.freeze)) σ (fa ++ [] ++ fb) := h4 _ _ _ _ x1.le (fun _ _ => rfl) (RepD.frz x1.le h3 fun a m => m)
      rw [List.append_nil] at r1
      refine h _ (frozen G H f) H σ (fa ++ fb) En pins x1.ws r1 pn (PoS.later (x1.permL fun a m => ?_) (fun _ _ => rfl) p)
      simp only [List.mem_append] at m ⊢
      rcases m with z | z | z <;> simp [z]
theorem PoS.lock {z G H H' : Hp} {fs : List Addr} {σ : L2.St} {W : WX} {En : Ends} {pins : List Nat} {o : RS} (k : Lk z G H H') (w : WS G H fs) (hx : ∀ x α, o ≠ .exc x α) {b : Bool} (hb : b = true) (p : PoS K ct G H fs σ W En pins o) : PoS K ct G H' fs σ W (unlk b z En) pins o := by
  subst hb
  obtain ⟨d, od, kvs, nf, hG, hH, rfl⟩ := k
  cases o with
  | nx α =>
    intro σ' G7 H7 fs7 x r q
    obtain ⟨h7, xb, ke⟩ := lk_back hG hH w x
    exact .inr ⟨d, od, _, h7, nf, p σ' G7 _ fs7 xb (r.mono (Le.refl G7) ke) q⟩
  | brk α =>
    intro σ' G7 H7 fs7 x r q
    obtain ⟨h7, xb, ke⟩ := lk_back hG hH w x
    exact .inr ⟨d, od, _, h7, nf, p σ' G7 _ fs7 xb (r.mono (Le.refl G7) ke) q⟩
  | ct α =>
    intro σ' G7 H7 fs7 x r q
    obtain ⟨h7, xb, ke⟩ := lk_back hG hH w x
    exact .inr ⟨d, od, _, h7, nf, p σ' G7 _ fs7 xb (r.mono (Le.refl G7) ke) q⟩
  | ret a α =>
    intro v σ' G7 H7 fs7 fp x r rd q
    obtain ⟨h7, xb, ke⟩ := lk_back hG hH w x
    exact .inr ⟨d, od, _, h7, nf, p v σ' G7 _ fs7 fp xb (r.mono (Le.refl G7) fun a m => ke a (List.mem_append_left _ m)) (rd.mono (Le.refl G7) fun a m => ke a (List.mem_append_right _ m)) q⟩
  | exc x α => exact absurd rfl (hx x α)
  | bad => exact p
theorem PoS.unl {b : Bool} {z G H : Hp} {fs : List Addr} {σ : L2.St} {W : WX} {En : Ends} {pins : List Nat} {o : RS} (p : PoS K ct G H fs σ W En pins o) : PoS K ct G H fs σ W (unlk b z En) pins o := by
  cases o with
  | nx α => exact fun σ' G7 H7 fs7 x r q => unlB.of (p σ' G7 H7 fs7 x r q)
  | brk α => exact fun σ' G7 H7 fs7 x r q => unlB.of (p σ' G7 H7 fs7 x r q)
  | ct α => exact fun σ' G7 H7 fs7 x r q => unlB.of (p σ' G7 H7 fs7 x r q)
  | ret a α => exact fun v σ' G7 H7 fs7 fp x r rd q => unlB.of (p v σ' G7 H7 fs7 fp x r rd q)
  | exc x α => exact p
  | bad => exact p
theorem gX_po {G H : Hp} {fs : List Addr} {σ : L2.St} {W : WX} {En : Ends} {pins : List Nat} {op : IOp} {o : RS} (p : PoS K ct G H fs σ W En pins (gX op o)) : PoS K ct G H fs σ W En pins o ∧ (op.dw = true → ∀ x α, o ≠ .exc x α) := by
  unfold gX at p
  by_cases h : op.dw = true
  · rw [if_pos h] at p
    cases o with
    | exc x α => exact p.elim
    | _ => exact ⟨p, fun _ x α q => by cases q⟩
  · rw [if_neg h] at p
    exact ⟨p, fun q => absurd q h⟩
theorem ss_for (F : Fit O P) {W : WX} {α : Env} {p : Pat} {op : IOp} {es : EL} {b : TS} {ob : Env → RS} {gb : List Nat} (h : ∀ α, SoS K ct b W α (ob α) gb) :
    SoS K ct (tUnl op.dw O.z (tFor (fun σ H R => semL O P W es σ H fun vs H1 => O.ri op vs H1 R) (gP K p) b)) W α (match evL P es α with
    | .exc x => .exc x α
    | .bad => .bad
    | .ok ds => match P.fi op (D.freezeL ds) with
      | none => .bad
      | some items => gX op (forGo (fun d α => match asgP p d α with
        | none => .bad
        | some α1 => ob α1) items α)) (p.slots ++ gb) := by
  intro G H σ fs En pins w r pn p0
  have pp : ∀ i, i ∈ pins → i ∉ p.slots := fun i m z => pn i m (List.mem_append_left _ z)
  have pb : ∀ i, i ∈ pins → i ∉ gb := fun i m z => pn i m (List.mem_append_right _ z)
  refine sL F es W α G H σ fs _ w r ?_
  cases he : evL P es α with
  | bad => rw [he] at p0; exact p0
  | exc x => rw [he] at p0; exact po_x_of w r (PoS.x p0)
  | ok ds =>
    rw [he] at p0
    dsimp only at p0
    cases hit : P.fi op (D.freezeL ds) with
    | none => rw [hit] at p0; exact p0.elim
    | some items =>
      rw [hit] at p0
      dsimp only at p0
      intro vs G1 H1 f x1 rl
      obtain ⟨w1, r1⟩ := stay x1 w r
      obtain ⟨x2, rl2⟩ := freeze_list w1 rl
      have x12 := x1.trans x2
      rw [F.fi] at hit
      refine O.oki op _ H1 _ vs items x2.ws rl2 hit _ fun J G3 H3 x3 hJ => ?_
      generalize hF : (fun d α => match asgP p d α with
        | none => RS.bad
        | some α1 => ob α1) = Fn at p0
      have key : WS G3 H3 fs ∧ RepS K ct G3 H3 α σ fs ∧ PoS K ct G3 H3 fs σ W (unlk op.dw O.z En) pins (forGo Fn items α) := by
        obtain ⟨p1, nx⟩ := gX_po p0
        rcases x3 with x3 | ⟨hdw, rfl, lk⟩
        · have x13 := x12.trans x3
          obtain ⟨w3, r3⟩ := stay x13 w r
          have x13s := st_of x13 w
          rw [List.append_nil] at x13s
          exact ⟨w3, r3, PoS.unl (PoS.later x13s (fun _ _ => rfl) p1)⟩
        · obtain ⟨w2, r2⟩ := stay x12 w r
          have x12s := st_of x12 w
          rw [List.append_nil] at x12s
          exact ⟨lk.ws w2, lk.rs w2 r2, PoS.lock lk w2 (nx hdw) hdw (PoS.later x12s (fun _ _ => rfl) p1)⟩
      clear p0
      obtain ⟨w3, r3, p3⟩ := key
      refine ⟨fun i m σ' H' => m = items.length - i ∧ i ≤ items.length ∧ ∃ G' α' fs', XT G3 H3 fs G' H' fs' ∧ RepS K ct G' H' α' σ' fs' ∧ Pin pins σ σ' ∧ PoS K ct G' H' fs' σ' W (unlk op.dw O.z En) pins (forGo Fn (items.drop i) α'),
        ⟨items.length, by simp, Nat.zero_le _, G3, α, fs, XT.refl w3, r3, fun _ _ => rfl, by rw [List.drop_zero]; exact p3⟩, ?_⟩
      rintro i m σ1 H' ⟨rfl, hi, G', α', fs', x4, r4, k4, p4⟩
      obtain ⟨hgo, hstop⟩ := hJ G' H' fs' x4.ws x4.eq fun a h => x4.fr a (fun q => h (w3.le.dom q)) fun m => h (w3.gn a m)
      by_cases hlt : i < items.length
      · obtain ⟨go, yld⟩ := hgo i hlt
        refine .inr ⟨go, fun σ2 H'' => ∃ m', m' < items.length - i ∧ (m' = items.length - (i + 1) ∧ i + 1 ≤ items.length ∧ ∃ G' α' fs', XT G3 H3 fs G' H'' fs' ∧ RepS K ct G' H'' α' σ2 fs' ∧ Pin pins σ σ2 ∧ PoS K ct G' H'' fs' σ2 W (unlk op.dw O.z En) pins (forGo Fn (items.drop (i + 1)) α')), fun σ2 H'' hN => hN, fun y H5 hy => ?_⟩
        obtain ⟨G5, d, hd, x5, rd⟩ := yld y H5 hy
        obtain ⟨w5, r5⟩ := stay x5 x4.ws r4
        have x5s := st_of x5 x4.ws
        rw [List.append_nil] at x5s
        have edrop : items.drop i = d :: items.drop (i + 1) := by
          rw [List.drop_eq_getElem_cons hlt]
          have := List.getElem?_eq_getElem hlt
          rw [hd] at this
          rw [Option.some.inj this]
        rw [edrop] at p4
        have p5 : PoS K ct G' H' fs' σ1 W (unlk op.dw O.z En) pins (match Fn d α' with
          | .nx α' => forGo Fn (items.drop (i + 1)) α'
          | .ct α' => forGo Fn (items.drop (i + 1)) α'
          | .brk α' => .nx α'
          | o => o) := p4
        have eF : Fn d α' = match asgP p d α' with
          | none => RS.bad
          | some α1 => ob α1 := by rw [← hF]
        cases ha : asgP p d α' with
        | none => rw [eF, ha] at p5; exact p5.elim
        | some α1 =>
          rw [eF, ha] at p5
          have p6 : PoS K ct G' H' fs' σ1 W (unlk op.dw O.z En) pins (match ob α1 with
            | .nx α' => forGo Fn (items.drop (i + 1)) α'
            | .ct α' => forGo Fn (items.drop (i + 1)) α'
            | .brk α' => .nx α'
            | o => o) := p5
          refine sP p G5 H5 σ1 fs' y d [] α' α1 _ w5 rd r5 ha fun σ2 gs m2 n2 s2 k2 l2 => ?_
          have x6 : XT G' H' fs' G5 H5 gs := x5s.drop (fun a ma => m2 a ma) n2
          have kk : Pin pins σ1 σ2 := fun j mj => k2 j (pp j mj)
          have k04 : Pin pins σ σ2 := fun j mj => (kk j mj).trans (k4 j mj)
          refine h α1 G5 H5 σ2 gs _ pins x6.ws s2 pb ?_
          have p7 := PoS.later x6 kk p6
          cases ho : ob α1 with
          | nx α2 =>
            rw [ho] at p7
            intro σ3 G7 H7 fs7 x7 r7 k7
            exact ⟨items.length - (i + 1), by omega, rfl, hlt, G7, α2, fs7, (x4.trans x6).trans x7, r7, fun j mj => (k7 j mj).trans (k04 j mj), PoS.later x7 k7 p7⟩
          | ct α2 =>
            rw [ho] at p7
            intro σ3 G7 H7 fs7 x7 r7 k7
            exact ⟨items.length - (i + 1), by omega, rfl, hlt, G7, α2, fs7, (x4.trans x6).trans x7, r7, fun j mj => (k7 j mj).trans (k04 j mj), PoS.later x7 k7 p7⟩
          | brk α2 => rw [ho] at p7; exact p7
          | ret d2 α2 => rw [ho] at p7; exact p7
          | exc x α2 => rw [ho] at p7; exact p7
          | bad => rw [ho] at p7; exact p7.elim
      · refine .inl ⟨hstop i (by omega), ?_⟩
        have ed : items.drop i = [] := List.drop_eq_nil_of_le (by omega)
        rw [ed] at p4
        exact p4 σ1 G' H' fs' (XT.refl x4.ws) r4 fun _ _ => rfl
theorem ss_whl (F : Fit O P) {W : WX} {α : Env} {t : T} {b : TS} {ob : Env → RS} {gb : List Nat} (h : ∀ α, SoS K ct b W α (ob α) gb) : ∀ n, SoS K ct (tWhile (semT O P W t) b) W α (whGo (evT P t) ob n α) gb := by
  intro n G H σ fs En pins w r pn p0
  refine ⟨fun m σ' H' => ∃ G' α' fs', XT G H fs G' H' fs' ∧ RepS K ct G' H' α' σ' fs' ∧ Pin pins σ σ' ∧ PoS K ct G' H' fs' σ' W En pins (whGo (evT P t) ob m α'), ⟨n, G, α, fs, XT.refl w, r, fun _ _ => rfl, p0⟩, ?_⟩
  rintro m σ1 H1 ⟨G1, α1, fs1, x1, r1, k1, p1⟩
  cases m with
  | zero => exact p1.elim
  | succ m =>
    have p2 : PoS K ct G1 H1 fs1 σ1 W En pins ((evT P t α1).on fun k α => if k = true then match ob α with
      | .nx α' => whGo (evT P t) ob m α'
      | .ct α' => whGo (evT P t) ob m α'
      | .brk α' => .nx α'
      | o => o
      else .nx α) := p1
    refine sT F W t α1 G1 H1 σ1 fs1 _ x1.ws r1 ?_
    cases ht : evT P t α1 with
    | bad => rw [ht] at p2; exact p2
    | exc x α2 => rw [ht] at p2; exact (PoS.x p2)
    | ok k α2 =>
      rw [ht] at p2
      intro G2 H2 fs2 x2 r2
      cases k with
      | false => exact p2 σ1 G2 H2 fs2 x2 r2 fun _ _ => rfl
      | true =>
        have p3 : PoS K ct G1 H1 fs1 σ1 W En pins (match ob α2 with
          | .nx α' => whGo (evT P t) ob m α'
          | .ct α' => whGo (evT P t) ob m α'
          | .brk α' => .nx α'
          | o => o) := p2
        refine ⟨fun σ' H' => ∃ m', m' < m + 1 ∧ ∃ G' α' fs', XT G H fs G' H' fs' ∧ RepS K ct G' H' α' σ' fs' ∧ Pin pins σ σ' ∧ PoS K ct G' H' fs' σ' W En pins (whGo (evT P t) ob m' α'), fun _ _ z => z, ?_⟩
        have p4 := PoS.later x2 (fun _ _ => rfl) p3
        refine h α2 G2 H2 σ1 fs2 _ pins x2.ws r2 pn ?_
        cases ho : ob α2 with
        | nx α3 =>
          rw [ho] at p4
          intro σ3 G7 H7 fs7 x7 r7 k7
          exact ⟨m, Nat.lt_succ_self m, G7, α3, fs7, (x1.trans x2).trans x7, r7, fun j mj => (k7 j mj).trans (k1 j mj), PoS.later x7 k7 p4⟩
        | ct α3 =>
          rw [ho] at p4
          intro σ3 G7 H7 fs7 x7 r7 k7
          exact ⟨m, Nat.lt_succ_self m, G7, α3, fs7, (x1.trans x2).trans x7, r7, fun j mj => (k7 j mj).trans (k1 j mj), PoS.later x7 k7 p4⟩
        | brk α3 => rw [ho] at p4; exact p4
        | ret d2 α3 => rw [ho] at p4; exact p4
        | exc x α3 => rw [ho] at p4; exact p4
        | bad => rw [ho] at p4; exact p4.elim

/-! ### in place -/
/-- the place's value v1, its owned part f1, and how a change of it comes into the slots -/
theorem at_place {G H : Hp} {σ : L2.St} {α : Env} {fs : List Addr} {i : Nat} {p : List Nat} {d x : D} (r : RepS K ct G H α σ fs) (hi : α[i]? = some (some d)) (hg : getAt p d = some x) :
    ∃ v0 v1 fa f1 fb, σ[i]? = some (some v0) ∧ vAt H v0 p = some v1 ∧ fs = fa ++ f1 ++ fb ∧ RepD K ct G H x v1 f1 ∧
      ∀ G' H' d2 f2, Le G G' → (∀ b, b ∈ fa ++ fb → H' b = H b) → RepD K ct G' H' d2 v1 f2 → RepS K ct G' H' (α.set i (some (setAt p d d2))) σ (fa ++ f2 ++ fb) := by
  obtain ⟨v0, ga, f, gb, h1, rfl, h3, h4⟩ := r.at hi
  obtain ⟨v1, fa, f1, fb, l1, rfl, l3, l4⟩ := h3.lens hg
  refine ⟨v0, v1, ga ++ fa, f1, fb ++ gb, h1, l1, by simp [List.append_assoc], l3, fun G' H' d2 f2 le k q => ?_⟩
  have q2 := l4 G' H' d2 f2 le (fun b m => k b (by
    simp only [List.mem_append] at m ⊢
    rcases m with z | z <;> simp [z])) q
  have q3 := h4 G' H' _ _ le (fun b m => k b (by
    simp only [List.mem_append] at m ⊢
    rcases m with z | z <;> simp [z])) q2
  have e : ga ++ fa ++ f2 ++ (fb ++ gb) = ga ++ (fa ++ f2 ++ fb) ++ gb := by simp [List.append_assoc]
  rw [e]; exact q3
/-- the change itself, at a place whose value is known -/
theorem ss_mutAt {W : WX} (hm : mf = M.f) {o : MOp} {i : Nat} {p : List Nat} {ds : List D} {vs : List V} {α α' : Env} {u : D} {G H : Hp} {σ : L2.St} {fs g : List Addr} {v0 v : V} (w : WS G H (fs ++ g)) (r : RepS K ct G H α σ fs) (rl : RepL K ct G H ds vs g)
    (hv : σ[i]? = some (some v0)) (hp : vAt H v0 p = some v) (h : mutAt mf o i p ds α = some (u, α')) (Q : VK)
    (hQ : ∀ y G' H' fs' fu, XT G H (fs ++ g) G' H' (fs' ++ fu) → RepS K ct G' H' α' σ fs' → RepD K ct G' H' u y fu → Q y H') : M.r o v vs H Q := by
  have h' : (match α[i]? with
    | some (some d) => match getAt p d with
      | some x => match mf o x ds with
        | some (x', u) => some (u, α.set i (some (setAt p d x')))
        | none => none
      | none => none
    | _ => none) = some (u, α') := h
  cases hi : α[i]? with
  | none => rw [hi] at h'; cases h'
  | some oo =>
    cases oo with
    | none => rw [hi] at h'; cases h'
    | some d =>
      rw [hi] at h'
      dsimp only at h'
      cases hg : getAt p d with
      | none => rw [hg] at h'; cases h'
      | some x =>
        rw [hg] at h'
        dsimp only at h'
        cases hf : mf o x ds with
        | none => rw [hf] at h'; cases h'
        | some t =>
          obtain ⟨x', u'⟩ := t
          rw [hf] at h'
          cases h'
          obtain ⟨v0', v1, fa, f1, fb, h1, h2, rfl, h4, h5⟩ := at_place r hi hg
          rw [hv] at h1
          have e1 : v0 = v0' := Option.some.inj (Option.some.inj h1)
          subst e1
          rw [hp] at h2
          have e2 : v = v1 := Option.some.inj h2
          subst e2
          rw [hm] at hf
          have wp : WS G H ((f1 ++ g) ++ (fa ++ fb)) := w.perm (by
            rw [List.perm_iff_count]
            intro a
            simp only [List.count_append]
            omega)
          refine M.ok o G H x v f1 ds vs g x' u wp.left h4 rl hf Q fun y G' H' f' fu z rd ru => ?_
          have z2 := z.beside wp
          have keep := z.keep wp
          refine hQ y G' H' (fa ++ f' ++ fb) fu ((z2.permL fun a m => ?_).permR ?_) (h5 G' H' x' f' z.le keep rd) ru
          · simp only [List.mem_append] at m ⊢
            rcases m with (q | q) | q | q <;> simp [q]
          · rw [List.perm_iff_count]
            intro a
            simp only [List.count_append]
            omega
end LD
namespace LD
open PySem PySem.Spec PyProof.Rows L2
variable {K : PySem.W.Frag} {ct : Str → Option Addr} {O : Ops K ct} {M : MO K ct} {P : Pg} {mf : MOp → D → List D → Option (D × D)}

theorem vals_rep {G H : Hp} {σ : L2.St} : ∀ {its : List Itm} {vs : List V} {fs : List Addr} {ds : List D}, vals its = some ds → ItR K ct G H σ its vs fs → RepL K ct G H ds vs fs
  | [], _, _, _, h, r => by cases h; exact r
  | .val d :: its, _, _, ds, h, ⟨v, r, f, g, e, e0, rd, h2⟩ => by
    have h' : (vals its).map (d :: ·) = some ds := h
    cases hv : vals its with
    | none => rw [hv] at h'; cases h'
    | some es =>
      rw [hv] at h'
      cases h'
      exact ⟨v, r, f, g, e, e0, rd, vals_rep hv h2⟩
  | .io _ _ :: _, _, _, _, h, _ => by cases h
theorem ss_par (F : Fit O P) {W : WX} {α : Env} {i j : Nat} {a b : E} : SoS K ct (fun D σ H => semE O P W a σ H fun v H1 => semE O P W b σ H1 fun w H2 => D.nx ((σ.set i (some v)).set j (some w)) H2) W α
    ((evC P (.e a) α).on fun d α => (evC P (.e b) α).on fun e α => if (D.fz d && D.fz e) = true then if i < α.length ∧ j < α.length then .nx ((α.set i (some d)).set j (some e)) else .bad else .bad) [i, j] := by
  refine ss_on (c := fun v En σ H1 => semE O P W b σ H1 fun w H2 => En.nx ((σ.set i (some v)).set j (some w)) H2) (sc_e F) fun d α1 _ G H σ fs v f En pins w r rd pn po => ?_
  refine sc_e F (e := b) G H σ fs _ w.left r ?_
  have po' : PoS K ct G H (fs ++ f) σ W En pins (((evE P b α1).at α1).on fun e α => if (D.fz d && D.fz e) = true then if i < α.length ∧ j < α.length then .nx ((α.set i (some d)).set j (some e)) else .bad else .bad) := po
  cases hb : evE P b α1 with
  | bad => rw [hb] at po'; exact po'
  | exc x =>
    rw [hb] at po'
    exact PoX.later (XT.letgo w) (PoS.x po')
  | ok e =>
    rw [hb] at po'
    intro u G1 H1 fs1 fu x r1 ru
    have po2 : PoS K ct G H (fs ++ f) σ W En pins (if (D.fz d && D.fz e) = true then if i < α1.length ∧ j < α1.length then .nx ((α1.set i (some d)).set j (some e)) else .bad else .bad) := po'
    by_cases hz : (D.fz d && D.fz e) = true
    · rw [if_pos hz] at po2
      rw [Bool.and_eq_true] at hz
      by_cases hl : i < α1.length ∧ j < α1.length
      · rw [if_pos hl] at po2
        have ef := rd.fz hz.1
        have eu := ru.fz hz.2
        subst ef
        subst eu
        rw [List.append_nil] at x w po2
        have rd1 : RepD K ct G1 H1 d v [] := rd.mono x.le fun _ m => by cases m
        obtain ⟨gs, m1, n1, s1⟩ := RepS.put r1 rd1 hl.1 (by simpa using x.ws.nd)
        obtain ⟨gs2, m2, n2, s2⟩ := RepS.put s1 (ru.mono (Le.refl G1) fun _ m => by cases m) (by rw [List.length_set]; exact hl.2) (by simpa using n1)
        refine po2 _ G1 H1 gs2 (x.drop (fun a m => ?_) n2) s2 fun k mk => ?_
        · have := m2 a m
          simp only [List.nil_append] at this
          have := m1 a this
          simpa using this
        · have nk := pn k mk
          simp only [List.mem_cons, List.not_mem_nil, or_false, not_or] at nk
          rw [List.getElem?_set_ne (fun z => nk.2 z.symm), List.getElem?_set_ne (fun z => nk.1 z.symm)]
      · rw [if_neg hl] at po2; exact po2.elim
    · rw [if_neg hz] at po2; exact po2.elim
theorem ss_mut (F : Fit O P) (hm : mf = M.f) {W : WX} {α : Env} {pt : Option Pat} {ty : Ty} {i : Nat} {ps : List Pst} {o : MOp} {as : List A} : SoS K ct (fun D σ H => semPath O P W ps (tVar i) σ H fun x H1 => tyQ K ty.n x H1 ∧ semAs O P W as σ H1 fun vs H2 => M.r o x vs H2 fun u H3 => gO K pt u σ H3 D.nx) W α (match α[i]? with
    | some (some d) => match evPath P α ps d with
      | .bad => .bad
      | .exc x => .exc x α
      | .ok p => match getAt p d with
        | none => .bad
        | some x => if tyD ty x = true then (evAs P as α).on fun its α => match vals its with
          | none => .bad
          | some ds => match mutAt mf o i p ds α with
            | none => .bad
            | some (u, α) => asgO pt u α
          else .bad
    | _ => .bad) (oSlots pt) := by
  intro G H σ fs En pins w r pn po
  cases hi : α[i]? with
  | none => rw [hi] at po; exact po.elim
  | some oo =>
    cases oo with
    | none => rw [hi] at po; exact po.elim
    | some d =>
      rw [hi] at po
      dsimp only at po
      obtain ⟨v0, fa, f, fb, h1, h2, h3, h4⟩ := r.at hi
      refine so_path F w r ps d v0 f (tVar i) _ (fun Q' hQ' => ⟨v0, h1, hQ' G H (XT.refl (WS.nil w.le))⟩) h3 (fun a m => by rw [h2]; simp [m]) ?_
      cases hp : evPath P α ps d with
      | bad => rw [hp] at po; exact po
      | exc x => rw [hp] at po; exact po_x_of w r (PoS.x po)
      | ok p =>
        rw [hp] at po
        dsimp only at po
        intro v1 G1 H1 x1 hv
        have x1s := st_of x1 w
        rw [List.append_nil] at x1s
        have r1 := (stay x1 w r).2
        cases hg : getAt p d with
        | none => rw [hg] at po; exact po.elim
        | some x =>
          rw [hg] at po
          dsimp only at po
          by_cases ht : tyD ty x = true
          · rw [if_pos ht] at po
            obtain ⟨v0', v1', ga, f1, gb, q1, q2, q3, q4, _⟩ := at_place r1 hi hg
            rw [h1] at q1
            have e1 : v0 = v0' := Option.some.inj (Option.some.inj q1)
            subst e1
            rw [hv] at q2
            have e2 : v1 = v1' := Option.some.inj q2
            subst e2
            refine ⟨q4.ty x1.ws.le ht, ?_⟩
            refine so_As F W as α G1 H1 σ fs _ x1s.ws r1 ?_
            have po1 := PoS.later x1s (fun _ _ => rfl) po
            cases has : evAs P as α with
            | bad => rw [has] at po1; exact po1
            | exc e α1 => rw [has] at po1; exact PoS.x po1
            | ok its α1 =>
              rw [has] at po1
              intro vs G2 H2 fs2 f2 x2 k2 r2 i2
              have po2 : PoS K ct G1 H1 fs σ W En pins (match vals its with
                | none => .bad
                | some ds => match mutAt mf o i p ds α1 with
                  | none => .bad
                  | some (u, α) => asgO pt u α) := po1
              cases hvs : vals its with
              | none => rw [hvs] at po2; exact po2.elim
              | some ds =>
                rw [hvs] at po2
                dsimp only at po2
                cases hmt : mutAt mf o i p ds α1 with
                | none => rw [hmt] at po2; exact po2.elim
                | some t =>
                  obtain ⟨u, α2⟩ := t
                  rw [hmt] at po2
                  dsimp only at po2
                  refine ss_mutAt (W := W) hm x2.ws r2 (vals_rep hvs i2) h1 (vAt_mono k2 hv) hmt _ fun y G3 H3 fs3 fu x3 r3 ru => ?_
                  have po3 := PoS.later (x2.trans x3) (fun _ _ => rfl) po2
                  cases pt with
                  | none => exact po3 σ G3 H3 fs3 (XT.letgo x3.ws) r3 fun _ _ => rfl
                  | some pt => exact ss_asgR (W := W) x3.ws r3 ru pn po3
          · rw [if_neg ht] at po; exact po.elim
theorem ss_setI (F : Fit O P) (hm : mf = M.f) {W : WX} {α : Env} {i : Nat} {ps : List Pst} {e : E} {c : C} : SoS K ct (fun D σ H => semC O P W c σ H fun y H1 => semPath O P W ps (tVar i) σ H1 fun x H2 => semE O P W e σ H2 fun k H3 => M.r .setI x [k, y] H3 fun _ H4 => D.nx σ H4) W α
    ((evC P c α).on fun y α => match α[i]? with
    | some (some d) => match evPath P α ps d with
      | .bad => .bad
      | .exc x => .exc x α
      | .ok p => match evE P e α with
        | .bad => .bad
        | .exc x => .exc x α
        | .ok k => match mutAt mf .setI i p [k, y] α with
          | none => .bad
          | some (_, α) => .nx α
    | _ => .bad) [] := by
  refine ss_on (c := fun y En σ H1 => semPath O P W ps (tVar i) σ H1 fun x H2 => semE O P W e σ H2 fun k H3 => M.r .setI x [k, y] H3 fun _ H4 => En.nx σ H4) (sC F W c α) fun dy α1 _ G H σ fs y f0 En pins w r rd pn po => ?_
  cases hi : α1[i]? with
  | none => rw [hi] at po; exact po.elim
  | some oo =>
    cases oo with
    | none => rw [hi] at po; exact po.elim
    | some d =>
      rw [hi] at po
      dsimp only at po
      obtain ⟨v0, fa, f, fb, h1, h2, h3, h4⟩ := r.at hi
      have wl := w.left
      refine so_path F wl r ps d v0 f (tVar i) _ (fun Q' hQ' => ⟨v0, h1, hQ' G H (XT.refl (WS.nil w.le))⟩) h3 (fun a m => by rw [h2]; simp [m]) ?_
      have back : ∀ e α', PoS K ct G H (fs ++ f0) σ W En pins (.exc e α') → PoX K ct G H fs σ W e α' := fun e α' p => PoX.later (XT.letgo w) (PoS.x p)
      cases hp : evPath P α1 ps d with
      | bad => rw [hp] at po; exact po
      | exc x => rw [hp] at po; exact po_x_of wl r (back _ _ po)
      | ok p =>
        rw [hp] at po
        dsimp only at po
        intro v1 G1 H1 x1 hv
        have w0 : WS G H ([] ++ (fs ++ f0)) := w
        have x1w := x1.beside w0
        have r1 := (stay x1 wl r).2
        have rd1 : RepD K ct G1 H1 dy y f0 := rd.mono x1.le fun a m => x1.fr a (w.hn a (List.mem_append_right _ m)) (by simp)
        have po1 := PoS.later (x1w : XT G H (fs ++ f0) G1 H1 (fs ++ f0)) (fun _ _ => rfl) po
        have w1 : WS G1 H1 (fs ++ f0) := x1w.ws
        refine sE F e W α1 G1 H1 σ fs _ w1.left r1 ?_
        cases he : evE P e α1 with
        | bad => rw [he] at po1; exact po1
        | exc x =>
          rw [he] at po1
          exact po_x_of w1.left r1 (PoX.later (XT.letgo w1) (PoS.x po1))
        | ok k =>
          rw [he] at po1
          dsimp only at po1
          intro kv G2 H2 fk x2 rk
          have x2w := st_of x2 w1
          have r2 := (stay x2 w1.left r1).2
          have rd2 : RepD K ct G2 H2 dy y f0 := rd1.mono x2.le fun a m => x2.fr a (w1.hn a (List.mem_append_right _ m)) (by simp)
          cases hmt : mutAt mf .setI i p [k, dy] α1 with
          | none => rw [hmt] at po1; exact po1.elim
          | some t =>
            obtain ⟨u, α2⟩ := t
            rw [hmt] at po1
            dsimp only at po1
            have w2 : WS G2 H2 (fs ++ (fk ++ f0)) := x2w.ws.perm (by
              rw [List.append_assoc]
              exact List.Perm.append_left fs List.perm_append_comm)
            refine ss_mutAt (W := W) (g := fk ++ f0) (vs := [kv, y]) (ds := [k, dy]) hm w2 r2 ⟨kv, [y], fk, f0, rfl, rfl, rk, y, [], f0, [], rfl, by simp, rd2, rfl, rfl⟩ h1 (vAt_mono (fun a h => x2.fr a h (by simp)) hv) hmt _ fun z G3 H3 fs3 fu x3 r3 ru => ?_
            have x23 := x2w.trans (x3.permL fun a m => (by simp only [List.mem_append] at m ⊢; rcases m with z | z | z <;> simp [z]))
            exact (PoS.later x23 (fun _ _ => rfl) po1) σ G3 H3 fs3 (XT.letgo x3.ws) r3 fun _ _ => rfl
theorem ss_setF (F : Fit O P) (hm : mf = M.f) {W : WX} {α : Env} {i : Nat} {ps : List Pst} {fl : Str} {c : C} : SoS K ct (fun D σ H => semC O P W c σ H fun y H1 => semPath O P W ps (tVar i) σ H1 fun x H2 => M.r (.setF fl) x [y] H2 fun _ H4 => D.nx σ H4) W α
    ((evC P c α).on fun y α => match α[i]? with
    | some (some d) => match evPath P α ps d with
      | .bad => .bad
      | .exc x => .exc x α
      | .ok p => match mutAt mf (.setF fl) i p [y] α with
          | none => .bad
          | some (_, α) => .nx α
    | _ => .bad) [] := by
  refine ss_on (c := fun y En σ H1 => semPath O P W ps (tVar i) σ H1 fun x H2 => M.r (.setF fl) x [y] H2 fun _ H4 => En.nx σ H4) (sC F W c α) fun dy α1 _ G H σ fs y f0 En pins w r rd pn po => ?_
  cases hi : α1[i]? with
  | none => rw [hi] at po; exact po.elim
  | some oo =>
    cases oo with
    | none => rw [hi] at po; exact po.elim
    | some d =>
      rw [hi] at po
      dsimp only at po
      obtain ⟨v0, fa, f, fb, h1, h2, h3, h4⟩ := r.at hi
      have wl := w.left
      refine so_path F wl r ps d v0 f (tVar i) _ (fun Q' hQ' => ⟨v0, h1, hQ' G H (XT.refl (WS.nil w.le))⟩) h3 (fun a m => by rw [h2]; simp [m]) ?_
      cases hp : evPath P α1 ps d with
      | bad => rw [hp] at po; exact po
      | exc x => rw [hp] at po; exact po_x_of wl r (PoX.later (XT.letgo w) (PoS.x po))
      | ok p =>
        rw [hp] at po
        dsimp only at po
        intro v1 G1 H1 x1 hv
        have w0 : WS G H ([] ++ (fs ++ f0)) := w
        have x1w := x1.beside w0
        have r1 := (stay x1 wl r).2
        have rd1 : RepD K ct G1 H1 dy y f0 := rd.mono x1.le fun a m => x1.fr a (w.hn a (List.mem_append_right _ m)) (by simp)
        have po1 := PoS.later (x1w : XT G H (fs ++ f0) G1 H1 (fs ++ f0)) (fun _ _ => rfl) po
        cases hmt : mutAt mf (.setF fl) i p [dy] α1 with
        | none => rw [hmt] at po1; exact po1.elim
        | some t =>
          obtain ⟨u, α2⟩ := t
          rw [hmt] at po1
          dsimp only at po1
          refine ss_mutAt (W := W) (g := f0) (vs := [y]) (ds := [dy]) hm x1w.ws r1 ⟨y, [], f0, [], rfl, by simp, rd1, rfl, rfl⟩ h1 hv hmt _ fun z G3 H3 fs3 fu x3 r3 ru => ?_
          exact (PoS.later x3 (fun _ _ => rfl) po1) σ G3 H3 fs3 (XT.letgo x3.ws) r3 fun _ _ => rfl
theorem ss_aug (F : Fit O P) {W : WX} {α : Env} {i : Nat} {sub : Bool} {e : E} : SoS K ct (tAug i (semE O P W e) (ipI fun a b => sgn sub a b)) W α (match α[i]? with
    | some (some (.int x)) => match evE P e α with
      | .bad => .bad
      | .exc z => .exc z α
      | .ok (.int y) => .nx (α.set i (some (.int (sgn sub x y))))
      | .ok _ => .bad
    | _ => .bad) [i] := by
  intro G H σ fs En pins w r pn po
  cases hi : α[i]? with
  | none => rw [hi] at po; exact po.elim
  | some oo =>
    cases oo with
    | none => rw [hi] at po; exact po.elim
    | some d =>
      cases d with
      | int x =>
        rw [hi] at po
        dsimp only at po
        obtain ⟨v0, fa, f, fb, h1, h2, h3, h4⟩ := r.at hi
        obtain ⟨rfl, rfl⟩ := h3
        refine ⟨_, h1, ?_⟩
        refine sE F e W α G H σ fs _ w r ?_
        cases he : evE P e α with
        | bad => rw [he] at po; exact po
        | exc z => rw [he] at po; exact po_x_of w r (PoS.x po)
        | ok dy =>
          rw [he] at po
          cases dy with
          | int y =>
            intro v G1 H1 f x1 rd
            obtain ⟨rfl, rfl⟩ := rd
            refine ⟨x, y, rfl, rfl, ?_⟩
            have x1s := st_of x1 w
            rw [List.append_nil] at x1s
            have r1 := (stay x1 w r).2
            obtain ⟨gs, m1, n1, s1⟩ := RepS.put (d := .int (sgn sub x y)) (v := .int (sgn sub x y)) (f := []) r1 ⟨rfl, rfl⟩ (by
              have := (List.getElem?_eq_some_iff.mp hi).1
              exact this) (by simpa using x1s.ws.nd)
            refine po _ G1 H1 gs (x1s.drop (fun a m => by simpa using m1 a m) n1) s1 fun k mk => ?_
            have nk := pn k mk
            have ne : i ≠ k := fun z => nk (by rw [z]; exact List.mem_singleton.mpr rfl)
            exact List.getElem?_set_ne ne
          | _ => exact po.elim
      | _ => rw [hi] at po; exact po.elim
theorem ss_raise0 (F : Fit O P) {W : WX} {α : Env} {c : Str} : SoS K ct (fun _ σ H => ∃ C, ct c = some C ∧ W (.ref C) none σ H) W α (if P.cs.contains c = true then .exc (.ins true c [] []) α else .bad) [] := by
  intro G H σ fs En pins w r pn po
  by_cases hc : P.cs.contains c = true
  · rw [if_pos hc] at po
    obtain ⟨C, h⟩ := F.cs c hc
    exact ⟨C, h, po _ _ σ G H fs [] (by rw [List.append_nil]; exact XT.refl w) r ⟨C, h, rfl, rfl, rfl⟩ fun _ _ => rfl⟩
  · rw [if_neg hc] at po; exact po.elim
theorem ss_raise1 (F : Fit O P) {W : WX} {α : Env} {c fl : Str} {a : C} : SoS K ct (fun _ σ H => semC O P W a σ H fun v H1 => ∃ C, ct c = some C ∧ ∀ d, H1 d = none → W (.ref C) (some d) σ (upd H1 d (.xd [(fl, v)]))) W α
    (if P.cs.contains c = true then (evC P a α).on fun d α => .exc (.ins true c [fl] [d]) α else .bad) [] := by
  by_cases hc : P.cs.contains c = true
  · rw [if_pos hc]
    refine ss_on (c := fun v _ σ H1 => ∃ C, ct c = some C ∧ ∀ d, H1 d = none → W (.ref C) (some d) σ (upd H1 d (.xd [(fl, v)]))) (sC F W a α) fun d α1 _ G H σ fs v f En pins w r rd pn po => ?_
    obtain ⟨C, h⟩ := F.cs c hc
    refine ⟨C, h, fun q hq => ?_⟩
    have x : XT G H (fs ++ f) G (upd H q (.xd [(fl, v)])) (fs ++ q :: f) := (XT.new (o := .xd [(fl, v)]) w hq).permR List.perm_middle.symm
    have ne : ∀ a, a ∈ fs ++ f → upd H q (.xd [(fl, v)]) a = H a := fun a m => upd_ne fun e => w.hn a m (by rw [e]; exact hq)
    exact po _ _ σ G _ fs (q :: f) x (r.mono (Le.refl G) fun a m => ne a (List.mem_append_left _ m)) ⟨C, q, v, f, h, rfl, rfl, rfl, upd_same, rd.mono (Le.refl G) fun a m => ne a (List.mem_append_right _ m)⟩ fun _ _ => rfl
  · rw [if_neg hc]
    exact fun G H σ fs En pins w r pn po => po.elim

/-! ### a slot lent while a statement runs -/
theorem back_st {G H G2 H2 : Hp} {F r fs2 : List Addr} (w : WS G H (F ++ r)) (hk : ∀ a, a ∈ F → (∃ xs, H a = some (.lst xs)) ∨ (∃ kv, H a = some (.dK kv)) ∨ ∃ C dx fs, H a = some (.ins C dx fs)) (x2 : XT (frozen G H F) H r G2 H2 fs2) :
    XT G H (F ++ r) (cut G2 F) H2 (F ++ fs2) ∧ ∀ a xs, SqT K G2 a xs → SqT K (cut G2 F) a xs := by
  have inf : ∀ a, a ∈ F → G2 a = H a := fun a m => by
    have q : frozen G H F a = H a := if_pos m
    rw [x2.eq a (by rw [q]; exact w.hn a (List.mem_append_left _ m)), q]
  have lift : ∀ a o, cut G2 F a = some o → G2 a = some o := fun a o q => by
    by_cases m : a ∈ F
    · rw [cut_in m] at q; cases q
    · rw [cut_out m] at q; exact q
  refine ⟨⟨fun a k => ?_, ⟨⟨fun a u q => ?_, fun a C dx l q => x2.ws.le.ins a C dx l (lift _ _ q)⟩, ?_, fun a m => ?_, fun a m => ?_⟩, fun a k n => x2.fr a k fun m => n (List.mem_append_right _ m), x2.dm, fun a k => ?_, fun a m => ?_⟩, fun a xs q => ?_⟩
  · have nf : a ∉ F := fun m => k (w.gn a (List.mem_append_left _ m))
    have q : frozen G H F a = G a := if_neg nf
    rw [cut_out nf, x2.eq a (by rw [q]; exact k), q]
  · apply x2.ws.le.rd
    rcases q with q | ⟨ob, q⟩
    · exact .inl (lift _ _ q)
    · exact .inr ⟨ob, lift _ _ q⟩
  · refine List.nodup_append.mpr ⟨(List.nodup_append.mp w.nd).1, x2.ws.nd, fun a m b m' e => ?_⟩
    subst e
    have := x2.ws.gn a m'
    rw [inf a m] at this
    exact w.hn a (List.mem_append_left _ m) this
  · by_cases m' : a ∈ F
    · exact cut_in m'
    · rw [cut_out m']
      rcases List.mem_append.mp m with z | z
      · exact absurd z m'
      · exact x2.ws.gn a z
  · rcases List.mem_append.mp m with z | z
    · exact x2.dm a (w.hn a (List.mem_append_left _ z))
    · exact x2.ws.hn a z
  · by_cases m : a ∈ F
    · exact absurd (cut_in m) k
    · rw [cut_out m] at k
      rcases x2.nw a k with z | z | z
      · have q : frozen G H F a = G a := if_neg m
        rw [q] at z; exact .inl z
      · exact .inr (.inl z)
      · exact .inr (.inr (List.mem_append_right _ z))
  · rcases List.mem_append.mp m with z | z
    · exact .inr (List.mem_append_left _ z)
    · rcases x2.fp a z with y | y
      · exact .inl y
      · exact .inr (List.mem_append_right _ y)
  · rcases q with q | q
    · by_cases m : a ∈ F
      · exfalso
        have e1 := inf a m
        rcases hk a m with ⟨ys, z⟩ | ⟨kv, z⟩ | ⟨C, dx, l, z⟩ <;> (rcases q with q | ⟨ob, q⟩ <;> (rw [e1, z] at q; cases q))
      · refine .inl ?_
        rcases q with q | ⟨ob, q⟩
        · exact .inl (by rw [cut_out m]; exact q)
        · exact .inr ⟨ob, by rw [cut_out m]; exact q⟩
    · exact .inr q
theorem thaw_rep {G H G2 H2 Gc : Hp} {ga : List Nat} {i : Nat} (le : Le G Gc) (cl : ∀ a xs, SqT K G2 a xs → SqT K Gc a xs) : ∀ (k : Nat) (α α' β : Env) (σ σ' : L2.St) (fs fs2 : List Addr), RepS K ct G H α σ fs → RepS K ct G2 H2 α' σ' fs2 →
    (∀ j, j < α.length → k + j ∉ ga → σ'[j]? = σ[j]?) → thaw ga i k α α' = some β → fs2.Nodup → ∃ gs, (∀ a, a ∈ gs → a ∈ fs2) ∧ gs.Nodup ∧ RepS K ct Gc H2 β σ' gs ∧ β.length = α.length
  | k, [], [], β, σ, σ', fs, fs2, r, r2, hp, h, nd => by
    cases h
    obtain ⟨rfl, rfl⟩ := r2
    exact ⟨[], fun a m => m, nd, ⟨rfl, rfl⟩, rfl⟩
  | k, [], _ :: _, β, σ, σ', fs, fs2, r, r2, hp, h, nd => by cases h
  | k, _ :: _, [], β, σ, σ', fs, fs2, r, r2, hp, h, nd => by cases h
  | k, o :: α, o' :: α', β, σ, σ', fs, fs2, r, r2, hp, h, nd => by
    have tl : ∃ (x : Option V) (rr : L2.St) (f0 : List Addr), σ = x :: rr ∧ RepS K ct G H α rr f0 := by
      cases o with
      | none => obtain ⟨x, rr, e, hs⟩ := r; exact ⟨x, rr, _, e, hs⟩
      | some d => obtain ⟨v, rr, f, g, e, _, _, hs⟩ := r; exact ⟨some v, rr, g, e, hs⟩
    have tl2 : ∃ (x : Option V) (rr : L2.St) (f0 : List Addr), σ' = x :: rr ∧ RepS K ct G2 H2 α' rr f0 ∧ (∀ a, a ∈ f0 → a ∈ fs2) ∧ f0.Nodup := by
      cases o' with
      | none => obtain ⟨x, rr, e, hs⟩ := r2; exact ⟨x, rr, _, e, hs, fun a m => m, nd⟩
      | some d =>
        obtain ⟨v, rr, f, g, e, e0, _, hs⟩ := r2
        subst e0
        exact ⟨some v, rr, g, e, hs, fun a m => List.mem_append_right _ m, (List.nodup_append.mp nd).2.1⟩
    obtain ⟨x, rr, f0, e1, hs1⟩ := tl
    obtain ⟨x', rr', f0', e2, hs2, sub2, nd2⟩ := tl2
    have h' : ((thaw ga i (k + 1) α α').bind fun q => thawS ga i k q o o') = some β := h
    cases ht : thaw ga i (k + 1) α α' with
    | none => rw [ht] at h'; cases h'
    | some q =>
      rw [ht] at h'
      have h2 : thawS ga i k q o o' = some β := h'
      have hp1 : ∀ j, j < α.length → k + 1 + j ∉ ga → rr'[j]? = rr[j]? := fun j hj hn => by
        have := hp (j + 1) (by simpa using hj) (by rw [show k + (j + 1) = k + 1 + j by omega]; exact hn)
        rw [e1, e2] at this
        simpa using this
      obtain ⟨gs, m1, n1, r3, l3⟩ := thaw_rep le cl (k + 1) α α' q rr rr' f0 f0' hs1 hs2 hp1 ht nd2
      have bare : ∃ gs', (∀ a, a ∈ gs' → a ∈ fs2) ∧ gs'.Nodup ∧ RepS K ct Gc H2 (none :: q) σ' gs' ∧ (none :: q).length = (o :: α).length := ⟨gs, fun a m => sub2 a (m1 a m), n1, ⟨x', rr', e2, r3⟩, by simp [l3]⟩
      have full : ∀ d', o' = some d' → d'.clean = true → ∃ gs', (∀ a, a ∈ gs' → a ∈ fs2) ∧ gs'.Nodup ∧ RepS K ct Gc H2 (some d' :: q) σ' gs' ∧ (some d' :: q).length = (o :: α).length := by
        intro d' eo hc
        subst eo
        obtain ⟨v, rr2, f, g, e3, e4, rd, hs⟩ := r2
        rw [e2] at e3
        injection e3 with e5 e6
        subst e5
        subst e6
        rw [e4] at nd
        have nq := List.nodup_append.mp nd
        obtain ⟨gs, m1, n1, r3, l3⟩ := thaw_rep le cl (k + 1) α α' q rr rr' f0 g hs1 hs hp1 ht nq.2.1
        refine ⟨f ++ gs, fun a m => ?_, List.nodup_append.mpr ⟨nq.1, n1, fun a ma b mb => nq.2.2 a ma b (m1 b mb)⟩, ⟨v, rr', f, gs, e2, rfl, RepD.cleanMono cl rd hc, r3⟩, by simp [l3]⟩
        rw [e4]
        rcases List.mem_append.mp m with z | z
        · exact List.mem_append_left _ z
        · exact List.mem_append_right _ (m1 a z)
      cases o' with
      | none =>
        have h3 : some (none :: q) = some β := by cases o <;> exact h2
        cases h3
        exact bare
      | some d' =>
        cases o with
        | none =>
          have h3 : (if k = i then some (none :: q) else if d'.clean = true then some (some d' :: q) else none) = some β := h2
          by_cases hki : k = i
          · rw [if_pos hki] at h3; cases h3; exact bare
          · rw [if_neg hki] at h3
            by_cases hc : d'.clean = true
            · rw [if_pos hc] at h3; cases h3; exact full d' rfl hc
            · rw [if_neg hc] at h3; cases h3
        | some d =>
          have h3 : (if k = i then some (none :: q) else if d'.clean = true then some (some d' :: q) else if (d.fz && !ga.contains k) = true then some (some d :: q) else none) = some β := h2
          by_cases hki : k = i
          · rw [if_pos hki] at h3; cases h3; exact bare
          · rw [if_neg hki] at h3
            by_cases hc : d'.clean = true
            · rw [if_pos hc] at h3; cases h3; exact full d' rfl hc
            · rw [if_neg hc] at h3
              by_cases hz : (d.fz && !ga.contains k) = true
              · rw [if_pos hz] at h3
                cases h3
                rw [Bool.and_eq_true] at hz
                obtain ⟨v2, rr3, f2, g2, e7, e8, rd2, hs3⟩ := r
                have := hp 0 (by simp) (by simpa using hz.2)
                rw [e7, e2] at this
                have ev : x' = some v2 := by simpa using this
                subst ev
                have ef := rd2.fz hz.1
                subst ef
                exact ⟨gs, fun a m => sub2 a (m1 a m), n1, ⟨v2, rr', [], gs, e2, rfl, rd2.mono le (fun a m => nomatch m), r3⟩, by simp [l3]⟩
              · rw [if_neg hz] at h3; cases h3
theorem ss_bor {W : WX} {α : Env} {i : Nat} {a : TS} {oa : Env → RS} {ga : List Nat} (h : ∀ α, SoS K ct a W α (oa α) ga) : SoS K ct a W α (match α[i]? with
    | some (some d) => if ga.contains i = true then .bad else match oa (α.set i (some d.freeze)) with
      | .nx α' => match thaw ga i 0 α α' with
        | some β => .nx (β.set i (some d))
        | none => .bad
      | .ret r α' => if r.clean = true then match thaw ga i 0 α α' with
        | some β => .ret r (β.set i (some d))
        | none => .bad
        else .bad
      | _ => .bad
    | _ => .bad) ga := by
  intro G H σ fs En pins w r pn po
  cases hi : α[i]? with
  | none => rw [hi] at po; exact po.elim
  | some oo =>
    cases oo with
    | none => rw [hi] at po; exact po.elim
    | some d =>
      rw [hi] at po
      dsimp only at po
      by_cases hg : ga.contains i = true
      · rw [if_pos hg] at po; exact po.elim
      · rw [if_neg hg] at po
        have hin : i ∉ ga := fun m => hg (by simpa using m)
        obtain ⟨v0, fa, f, fb, h1, h2, h3, h4⟩ := r.at hi
        subst h2
        have w' : WS G H (f ++ (fa ++ fb)) := w.perm (by
          rw [List.append_assoc]
          exact (List.perm_append_comm_assoc fa f fb))
        have hil : i < α.length := (List.getElem?_eq_some_iff.mp hi).1
        have x1 := XT.frz w'
        have r1 : RepS K ct (frozen G H f) H (α.set i (some d.freeze)) σ (fa ++ [] ++ fb) := h4 _ _ _ _ x1.le (fun _ _ => rfl) (RepD.frz x1.le h3 fun a m => m)
        rw [List.append_nil] at r1
        refine h _ (frozen G H f) H σ (fa ++ fb) En (pins ++ (List.range α.length).filter fun j => !ga.contains j) x1.ws r1 (fun j m => ?_) ?_
        · rcases List.mem_append.mp m with z | z
          · exact pn j z
          · have := (List.mem_filter.mp z).2
            simpa using this
        · -- back
          have back : ∀ σ' G' H' fs' α' β, XT (frozen G H f) H (fa ++ fb) G' H' fs' → (∃ f2 f3, fs' = f2 ++ f3 ∧ RepS K ct G' H' α' σ' f2) → Pin (pins ++ (List.range α.length).filter fun j => !ga.contains j) σ σ' → thaw ga i 0 α α' = some β →
              ∀ f2 f3, fs' = f2 ++ f3 → RepS K ct G' H' α' σ' f2 → ∃ gs, XT G H (fa ++ f ++ fb) (cut G' f) H' (gs ++ f3) ∧ RepS K ct (cut G' f) H' (β.set i (some d)) σ' gs ∧ (∀ a xs, SqT K G' a xs → SqT K (cut G' f) a xs) := by
            intro σ' G' H' fs' α' β x2 _ pin ht f2 f3 ef r2
            subst ef
            obtain ⟨b1, b2⟩ := back_st (K := K) w' h3.kind x2
            have nd2 := List.nodup_append.mp x2.ws.nd
            obtain ⟨gs, m1, n1, r3, l3⟩ := thaw_rep (i := i) (Gc := cut G' f) b1.le b2 0 α α' β σ σ' _ f2 r r2 (fun j hj hn => by
              rw [Nat.zero_add] at hn
              exact pin j (List.mem_append_right _ (List.mem_filter.mpr ⟨List.mem_range.mpr hj, by simpa using hn⟩))) ht nd2.1
            have keep : ∀ a, a ∈ f → H' a = H a := fun a m => x2.fr a (w'.hn a (List.mem_append_left _ m)) fun z => w'.apart m z
            have rd : RepD K ct (cut G' f) H' d v0 f := h3.mono b1.le keep
            have hs : σ'[i]? = some (some v0) := by
              rw [pin i (List.mem_append_right _ (List.mem_filter.mpr ⟨List.mem_range.mpr hil, by simpa using hin⟩)), h1]
            have ndf := List.nodup_append.mp b1.ws.nd
            obtain ⟨gs1, m2, n2, r4⟩ := RepS.put (i := i) r3 rd (by rw [l3]; exact hil) (List.nodup_append.mpr ⟨ndf.1, n1, fun a ma b mb => ndf.2.2 a ma b (List.mem_append_left _ (m1 b mb))⟩)
            rw [set_same hs] at r4
            refine ⟨gs1, ((b1.permL fun a m => ?_).drop (fun a m => ?_) ?_), r4, b2⟩
            · simp only [List.mem_append] at m ⊢
              rcases m with z | z | z <;> simp [z]
            · rcases List.mem_append.mp m with z | z
              · rcases List.mem_append.mp (m2 a z) with y | y
                · exact List.mem_append_left _ y
                · exact List.mem_append_right _ (List.mem_append_left _ (m1 a y))
              · exact List.mem_append_right _ (List.mem_append_right _ z)
            · refine List.nodup_append.mpr ⟨n2, nd2.2.1, fun a ma b mb => ?_⟩
              rcases List.mem_append.mp (m2 a ma) with y | y
              · exact ndf.2.2 a y b (List.mem_append_right _ mb)
              · exact nd2.2.2 a (m1 a y) b mb
          cases ho : oa (α.set i (some d.freeze)) with
          | nx α' =>
            rw [ho] at po
            dsimp only at po
            cases ht : thaw ga i 0 α α' with
            | none => rw [ht] at po; exact po.elim
            | some β =>
              rw [ht] at po
              intro σ' G' H' fs' x2 r2 pin
              obtain ⟨gs, x3, r3, _⟩ := back σ' G' H' fs' α' β x2 ⟨fs', [], by rw [List.append_nil], r2⟩ pin ht fs' [] (by rw [List.append_nil]) r2
              rw [List.append_nil] at x3
              exact po σ' _ H' gs x3 r3 fun j mj => pin j (List.mem_append_left _ mj)
          | ret rr α' =>
            rw [ho] at po
            dsimp only at po
            by_cases hc : rr.clean = true
            · rw [if_pos hc] at po
              cases ht : thaw ga i 0 α α' with
              | none => rw [ht] at po; exact po.elim
              | some β =>
                rw [ht] at po
                intro v σ' G' H' fs' fp x2 r2 rd pin
                obtain ⟨gs, x3, r3, b2⟩ := back σ' G' H' (fs' ++ fp) α' β x2 ⟨fs', fp, rfl, r2⟩ pin ht fs' fp rfl r2
                exact po v σ' _ H' gs fp x3 r3 (RepD.cleanMono b2 rd hc) fun j mj => pin j (List.mem_append_left _ mj)
            · rw [if_neg hc] at po; exact po.elim
          | brk α' => rw [ho] at po; exact po.elim
          | ct α' => rw [ho] at po; exact po.elim
          | exc x α' => rw [ho] at po; exact po.elim
          | bad => rw [ho] at po; exact po.elim
/-! ### each of a row changed in place -/
theorem RepS.unset {G H : Hp} : ∀ {α : Env} {σ : L2.St} {fs : List Addr} (x : Nat) (u : Option V), RepS K ct G H α σ fs → fs.Nodup → ∃ gs, (∀ a, a ∈ gs → a ∈ fs) ∧ gs.Nodup ∧ RepS K ct G H (α.set x none) (σ.set x u) gs
  | [], _, _, x, u, ⟨h1, h2⟩, nd => by
    subst h1
    subst h2
    exact ⟨[], fun a m => m, nd, ⟨rfl, rfl⟩⟩
  | none :: α, _, fs, 0, u, ⟨y, r, e, hs⟩, nd => by
    subst e
    exact ⟨fs, fun a m => m, nd, u, r, rfl, hs⟩
  | some d :: α, _, _, 0, u, ⟨v, r, f, g, e, e0, h0, hs⟩, nd => by
    subst e
    subst e0
    exact ⟨g, fun a m => List.mem_append_right _ m, (List.nodup_append.mp nd).2.1, u, r, rfl, hs⟩
  | none :: α, _, fs, x + 1, u, ⟨y, r, e, hs⟩, nd => by
    subst e
    obtain ⟨gs, h1, h2, h3⟩ := RepS.unset x u hs nd
    exact ⟨gs, h1, h2, y, _, rfl, h3⟩
  | some d :: α, _, _, x + 1, u, ⟨v, r, f, g, e, e0, h0, hs⟩, nd => by
    subst e
    subst e0
    have q := List.nodup_append.mp nd
    obtain ⟨gs, h1, h2, h3⟩ := RepS.unset x u hs q.2.1
    refine ⟨f ++ gs, fun a m => ?_, List.nodup_append.mpr ⟨q.1, h2, fun a ma b mb => q.2.2 a ma b (h1 b mb)⟩, v, _, f, gs, rfl, rfl, h0, h3⟩
    rcases List.mem_append.mp m with z | z
    · exact List.mem_append_left _ z
    · exact List.mem_append_right _ (h1 a z)
theorem each_cons {mf : MOp → D → List D → Option (D × D)} {ty : Ty} {o : MOp} {d : D} {r done items : List D} (h : (eachD mf ty o (d :: r)).map (done ++ ·) = some items) : ∃ d' u, tyD ty d = true ∧ mf o d [] = some (d', u) ∧ (eachD mf ty o r).map ((done ++ [d']) ++ ·) = some items := by
  unfold eachD at h
  by_cases ht : tyD ty d = true
  · rw [if_pos ht] at h
    cases hf : mf o d [] with
    | none => rw [hf] at h; cases h
    | some t =>
      obtain ⟨d', u⟩ := t
      rw [hf] at h
      refine ⟨d', u, ht, rfl, ?_⟩
      cases hr : eachD mf ty o r with
      | none => rw [hr] at h; cases h
      | some l =>
        rw [hr] at h
        have h' : some (done ++ d' :: l) = some items := h
        rw [← h']
        simp
  · rw [if_neg ht] at h; cases h
/-- how far the walk is -/
def EachI (K : PySem.W.Frag) (ct : Str → Option Addr) (mf : MOp → D → List D → Option (D × D)) (ty : Ty) (o : MOp) (G1 H1 : Hp) (a : Addr) (fl : List Addr) (xs : List V) (items items' : List D) (σ : L2.St) (x k : Nat) (σ' : L2.St) (H' : Hp) : Prop :=
  k ≤ items.length ∧ (∃ u, σ' = σ.set x u) ∧ ∃ G' done va vb f2 f3, XT G1 H1 (a :: fl) G' H' (a :: (f2 ++ f3)) ∧ H' a = some (.lst xs) ∧ xs = va ++ vb ∧ va.length = k ∧ RepL K ct G' H' done va f2 ∧ RepL K ct G' H' (items.drop k) vb f3 ∧ (eachD mf ty o (items.drop k)).map (done ++ ·) = some items'
theorem each_core (hm : mf = M.f) {W : WX} {x : Nat} {ty : Ty} {o : MOp} {G1 H1 : Hp} {fs ga gb fl : List Addr} {σ : L2.St} {a : Addr} {xs : List V} {items items' : List D} {αs : D → Env} {En : Ends} {pins : List Nat} (w1 : WS G1 H1 fs) (q3 : fs = ga ++ (a :: fl) ++ gb) (ea : H1 a = some (.lst xs)) (rl : RepL K ct G1 H1 items xs fl)
    (q5 : ∀ G' H' d2 f2, Le G1 G' → (∀ b, b ∈ ga ++ gb → H' b = H1 b) → RepD K ct G' H' d2 (.ref a) f2 → RepS K ct G' H' (αs d2) σ (ga ++ f2 ++ gb)) (hed : eachD mf ty o items = some items') (hxs : x < σ.length) (pn : ∀ i, i ∈ pins → i ∉ [x]) (po : PoS K ct G1 H1 fs σ W En pins (.nx ((αs (.lst true items')).set x none))) :
    ∃ a' xs', V.ref a = V.ref a' ∧ SqL K H1 a' xs' ∧ ∃ Wi : Nat → Nat → L2.St → Hp → Prop, (∃ m, Wi 0 m σ H1) ∧ ∀ i m σ H, Wi i m σ H → ((Itl K a').stop i H ∧ En.nx σ H) ∨ ((Itl K a').go i H ∧ ∃ N : L2.St → Hp → Prop, (∀ σ' H', N σ' H' → ∃ m', m' < m ∧ Wi (i + 1) m' σ' H') ∧ ∀ y H', (Itl K a').yld i H y H' → gP K (.one x) y σ H' fun σ2 H2 => tVar x σ2 H2 fun v H3 => tyQ K ty.n v H3 ∧ M.r o v [] H3 fun _ H4 => N σ2 H4) := by
  have w1' : WS G1 H1 ((a :: fl) ++ (ga ++ gb)) := w1.perm (by
    rw [q3, List.perm_iff_count]
    intro b
    simp only [List.count_append]
    omega)
  refine ⟨a, xs, rfl, .inl (.inl ea), fun k m σ' H' => m = items.length - k ∧ EachI K ct mf ty o G1 H1 a fl xs items items' σ x k σ' H',
    ⟨items.length, by simp, Nat.zero_le _, ⟨σ[x], (List.set_getElem_self hxs).symm⟩, G1, [], [], xs, [], fl, XT.refl w1'.left, ea, rfl, rfl, ⟨rfl, rfl⟩, by rw [List.drop_zero]; exact rl, by rw [List.drop_zero, hed]; rfl⟩, ?_⟩
  rintro k m σ1 H' ⟨rfl, hk, ⟨u0, rfl⟩, G', done, va, vb, f2, f3, x4, ea', exs, hva, rla, rlb, he⟩
  by_cases hlt : k < items.length
  · have edrop : items.drop k = items[k] :: items.drop (k + 1) := List.drop_eq_getElem_cons hlt
    generalize items[k] = d0 at edrop
    rw [edrop] at rlb he
    obtain ⟨v, vs, g1, g2, rfl, rfl, rd, rs⟩ := rlb
    obtain ⟨d', ud, hty, hf, he'⟩ := each_cons he
    have hget : xs[k]? = some v := by rw [exs]; simp [← hva]
    refine .inr ⟨⟨xs, v, .inl (.inl ea'), hget⟩, fun σ2 H2 => EachI K ct mf ty o G1 H1 a fl xs items items' σ x (k + 1) σ2 H2, fun σ2 H2 h => ⟨items.length - (k + 1), by omega, rfl, h⟩, fun y H5 hy => ?_⟩
    obtain ⟨rfl, hy⟩ := hy
    have hy' := hy xs (.inl (.inl ea'))
    rw [hget] at hy'
    have ey : v = y := Option.some.inj hy'
    subst ey
    have wx : WS G' H5 ((g1 ++ []) ++ (a :: (f2 ++ g2))) := x4.ws.perm (by
      rw [List.perm_iff_count]
      intro b
      simp only [List.count_append, List.count_cons, List.count_nil]
      omega)
    refine ⟨v, by rw [List.getElem?_set_self (by rw [List.length_set]; exact hxs)], RepD.ty x4.ws.le rd hty, ?_⟩
    rw [hm] at hf
    refine M.ok o G' H5 d0 v g1 [] [] [] d' ud wx.left rd ⟨rfl, rfl⟩ hf _ fun z G6 H6 f' fu x6 rd' ru => ?_
    have xb := x6.beside wx
    have kp := x6.keep wx
    refine ⟨hlt, ⟨some v, by rw [List.set_set]⟩, G6, done ++ [d'], va ++ [v], vs, f2 ++ f', g2, ?_, by rw [kp a List.mem_cons_self]; exact ea', by rw [exs]; simp, by simp [hva], ?_, ?_, he'⟩
    · refine x4.trans (((xb.permL fun b m => ?_).drop (fun b m => ?_) ?_))
      · simp only [List.mem_append, List.mem_cons, List.not_mem_nil, or_false] at m ⊢
        rcases m with y | y | y | y <;> simp [y]
      · simp only [List.mem_append, List.mem_cons] at m ⊢
        rcases m with y | (y | y) | y <;> simp [y]
      · have n6 := xb.ws.nd
        rw [List.nodup_iff_count] at n6 ⊢
        intro b
        have := n6 b
        simp only [List.count_append, List.count_cons] at this ⊢
        omega
    · refine (rla.mono x6.le fun b m => kp b (by simp [m])).append ?_
      exact ⟨v, [], f', [], rfl, by rw [List.append_nil], rd', rfl, rfl⟩
    · exact rs.mono x6.le fun b m => kp b (by simp [m])
  · have hkl : items.drop k = [] := List.drop_eq_nil_of_le (by omega)
    rw [hkl] at rlb he
    obtain ⟨rfl, rfl⟩ := rlb
    have ei : done = items' := by
      have : some (done ++ []) = some items' := he
      simpa using this
    subst ei
    refine .inl ⟨⟨xs, .inl (.inl ea'), by rw [exs]; simp; omega⟩, ?_⟩
    have x5 := x4.beside w1'
    have kp := x4.keep w1'
    have rd : RepD K ct G' H' (.lst true done) (.ref a) (a :: f2) := ⟨a, xs, f2, rfl, rfl, ea', by rw [exs, List.append_nil]; exact rla⟩
    have r5 := q5 G' H' _ (a :: f2) x4.le (fun b m => kp b m) rd
    have n5 : (ga ++ (a :: f2) ++ gb).Nodup := by
      have n6 := x5.ws.nd
      rw [List.nodup_iff_count] at n6 ⊢
      intro b
      have := n6 b
      simp only [List.count_append, List.count_cons, List.count_nil] at this ⊢
      omega
    obtain ⟨gs, m1, n1, r6⟩ := RepS.unset x u0 r5 n5
    refine po _ G' H' gs ((x5.permL fun b m => ?_).drop (fun b m => ?_) n1) r6 fun j mj => ?_
    · rw [q3]
      simp only [List.mem_append] at m ⊢
      rcases m with y | y | y <;> simp [y]
    · have := m1 b m
      simp only [List.mem_append, List.mem_cons] at this ⊢
      rcases this with (y | y | y) | y <;> simp [y]
    · have hj : x ≠ j := fun e => pn j mj (by rw [e]; exact List.mem_singleton.mpr rfl)
      exact List.getElem?_set_ne hj
theorem ss_each (F : Fit O P) (hm : mf = M.f) {W : WX} {α : Env} {x i : Nat} {ps : List Pst} {ty : Ty} {o : MOp} : SoS K ct (tFor (fun σ H R => semPath O P W ps (tVar i) σ H fun v H1 => ∃ a xs, v = .ref a ∧ SqL K H1 a xs ∧ R (Itl K a) H1) (gP K (.one x)) fun D σ H => tVar x σ H fun v H1 => tyQ K ty.n v H1 ∧ M.r o v [] H1 fun _ H3 => D.nx σ H3) W α (match α[i]? with
    | some (some d) => match evPath P α ps d with
      | .ok p => match getAt p d with
        | some (.lst true items) => match eachD mf ty o items with
          | some items' => if x < α.length then .nx ((α.set i (some (setAt p d (.lst true items')))).set x none) else .bad
          | none => .bad
        | _ => .bad
      | _ => .bad
    | _ => .bad) [x] := by
  intro G H σ fs En pins w r pn po
  cases hi : α[i]? with
  | none => rw [hi] at po; exact po.elim
  | some oo =>
    cases oo with
    | none => rw [hi] at po; exact po.elim
    | some d =>
      rw [hi] at po
      dsimp only at po
      obtain ⟨v0, fa, f, fb, h1, h2, h3, h4⟩ := r.at hi
      refine so_path F w r ps d v0 f (tVar i) _ (fun Q' hQ' => ⟨v0, h1, hQ' G H (XT.refl (WS.nil w.le))⟩) h3 (fun a m => by rw [h2]; simp [m]) ?_
      cases hp : evPath P α ps d with
      | bad => rw [hp] at po; exact po.elim
      | exc z => rw [hp] at po; exact po.elim
      | ok p =>
        rw [hp] at po
        dsimp only at po
        intro v1 G1 H1 x1 hv
        have x1s := st_of x1 w
        rw [List.append_nil] at x1s
        obtain ⟨w1, r1⟩ := stay x1 w r
        rw [List.nil_append] at w1
        cases hg : getAt p d with
        | none => rw [hg] at po; exact po.elim
        | some nd =>
          rw [hg] at po
          cases nd with
          | lst m items =>
            cases m with
            | false => exact po.elim
            | true =>
              dsimp only at po
              cases hed : eachD mf ty o items with
              | none => rw [hed] at po; exact po.elim
              | some items' =>
                rw [hed] at po
                dsimp only at po
                by_cases hx : x < α.length
                · rw [if_pos hx] at po
                  obtain ⟨v0', v1', ga, f1, gb, q1, q2, q3, q4, q5⟩ := at_place r1 hi hg
                  rw [h1] at q1
                  have e1 : v0 = v0' := Option.some.inj (Option.some.inj q1)
                  subst e1
                  rw [hv] at q2
                  have e2 : v1 = v1' := Option.some.inj q2
                  subst e2
                  obtain ⟨a, xs, fl, rfl, rfl, ea, rl⟩ := q4
                  have hxs : x < σ.length := by rw [r.length]; exact hx
                  exact each_core (αs := fun d2 => α.set i (some (setAt p d d2))) hm w1 q3 ea rl q5 hed hxs pn (PoS.later x1s (fun _ _ => rfl) po)
                · rw [if_neg hx] at po; exact po.elim
          | _ => exact po.elim
theorem ss_eachT (F : Fit O P) (hm : mf = M.f) {W : WX} {α : Env} {x i j : Nat} {ty : Ty} {o : MOp} : SoS K ct (tFor (fun σ H R => semPath O P W [.ix (.c (.int (j : Int)))] (tVar i) σ H fun v H1 => ∃ a xs, v = .ref a ∧ SqL K H1 a xs ∧ R (Itl K a) H1) (gP K (.one x)) fun D σ H => tVar x σ H fun v H1 => tyQ K ty.n v H1 ∧ M.r o v [] H1 fun _ H3 => D.nx σ H3) W α (match α[i]? with
    | some (some (.tup l)) => match l[j]? with
      | some (.lst true items) => match eachD mf ty o items with
        | some items' => if x < α.length then .nx ((α.set i (some (.tup (l.set j (.lst true items'))))).set x none) else .bad
        | none => .bad
      | _ => .bad
    | _ => .bad) [x] := by
  intro G H σ fs En pins w r pn po
  cases hi : α[i]? with
  | none => rw [hi] at po; exact po.elim
  | some oo =>
    cases oo with
    | none => rw [hi] at po; exact po.elim
    | some d =>
      rw [hi] at po
      cases d with
      | tup l =>
        dsimp only at po
        cases hj : l[j]? with
        | none => rw [hj] at po; exact po.elim
        | some nd =>
          rw [hj] at po
          cases nd with
          | lst m items =>
            cases m with
            | false => exact po.elim
            | true =>
              dsimp only at po
              cases hed : eachD mf ty o items with
              | none => rw [hed] at po; exact po.elim
              | some items' =>
                rw [hed] at po
                dsimp only at po
                by_cases hx : x < α.length
                · rw [if_pos hx] at po
                  obtain ⟨v0, fa, f, fb, h1, h2, h3, h4⟩ := r.at hi
                  obtain ⟨t, ts, rfl, et, rlt⟩ := h3
                  obtain ⟨v1, ga, g1, gb, e1, rfl, r1, up⟩ := rlt.at hj
                  obtain ⟨a, xs, fl, rfl, rfl, ea, rl⟩ := r1
                  have hxs : x < σ.length := by rw [r.length]; exact hx
                  have hjl : j < ts.length := (List.getElem?_eq_some_iff.mp e1).1
                  refine ⟨.ref t, h1, .inr (.inl ⟨t, ts, (j : Int), .ref a, rfl, rfl, w.le.sqT et, ?_, ?_⟩)⟩
                  · unfold atI
                    rw [show ixN ts.length (j : Int) = some j by unfold ixN; rw [if_pos (by omega), if_pos (by omega)]; simp]
                    exact e1
                  · refine each_core (αs := fun d2 => α.set i (some (.tup (l.set j d2)))) (ga := fa ++ ga) (gb := gb ++ fb) hm w (by rw [h2]; simp [List.append_assoc]) ea rl (fun G' H' d2 f2 le k q => ?_) hed hxs pn po
                    have k1 : ∀ b, b ∈ ga ++ gb → H' b = H b := fun b m => k b (by
                      simp only [List.mem_append] at m ⊢
                      rcases m with z | z <;> simp [z])
                    have k2 : ∀ b, b ∈ fa ++ fb → H' b = H b := fun b m => k b (by
                      simp only [List.mem_append] at m ⊢
                      rcases m with z | z <;> simp [z])
                    have q2 := h4 G' H' (.tup (l.set j d2)) (ga ++ f2 ++ gb) le k2 ⟨t, ts, rfl, le.sqT et, up G' H' d2 f2 le k1 q⟩
                    have el : fa ++ ga ++ f2 ++ (gb ++ fb) = fa ++ (ga ++ f2 ++ gb) ++ fb := by simp [List.append_assoc]
                    rw [el]
                    exact q2
                · rw [if_neg hx] at po; exact po.elim
          | _ => exact po.elim
      | _ => exact po.elim
theorem ss_mutT (F : Fit O P) (hm : mf = M.f) {W : WX} {α : Env} {i j : Nat} {ty : Ty} {o : MOp} {es : EL} : SoS K ct (fun D σ H => semPath O P W [.ix (.c (.int (j : Int)))] (tVar i) σ H fun x H1 => tyQ K ty.n x H1 ∧ semL O P W es σ H1 fun vs H2 => M.r o x vs H2 fun _ H3 => D.nx σ H3) W α (match α[i]? with
    | some (some (.tup l)) => match l[j]? with
      | some x => if tyD ty x = true then match evL P es α with
        | .bad => .bad
        | .exc e => .exc e α
        | .ok ds => match mf o x ds with
          | some t => .nx (α.set i (some (.tup (l.set j t.1))))
          | none => .bad
        else .bad
      | none => .bad
    | _ => .bad) [] := by
  intro G H σ fs En pins w r pn po
  cases hi : α[i]? with
  | none => rw [hi] at po; exact po.elim
  | some oo =>
    cases oo with
    | none => rw [hi] at po; exact po.elim
    | some d =>
      rw [hi] at po
      cases d with
      | tup l =>
        dsimp only at po
        cases hj : l[j]? with
        | none => rw [hj] at po; exact po.elim
        | some nd =>
          rw [hj] at po
          dsimp only at po
          by_cases ht : tyD ty nd = true
          · rw [if_pos ht] at po
            obtain ⟨v0, fa, f, fb, h1, h2, h3, h4⟩ := r.at hi
            obtain ⟨t, ts, rfl, et, rlt⟩ := h3
            obtain ⟨v1, ga, g1, gb, e1, rfl, r1, up⟩ := rlt.at hj
            have hjl : j < ts.length := (List.getElem?_eq_some_iff.mp e1).1
            refine ⟨.ref t, h1, .inr (.inl ⟨t, ts, (j : Int), v1, rfl, rfl, w.le.sqT et, ?_, ?_⟩)⟩
            · unfold atI
              rw [show ixN ts.length (j : Int) = some j by unfold ixN; rw [if_pos (by omega), if_pos (by omega)]; simp]
              exact e1
            · refine ⟨r1.ty w.le ht, sL F es W α G H σ fs _ w r ?_⟩
              cases he : evL P es α with
              | bad => rw [he] at po; exact po
              | exc x => rw [he] at po; exact po_x_of w r (PoS.x po)
              | ok ds =>
                rw [he] at po
                dsimp only at po
                intro vs G2 H2 fk x2 rk
                have x2w := st_of x2 w
                cases hf : mf o nd ds with
                | none => rw [hf] at po; exact po.elim
                | some q =>
                  obtain ⟨x', u⟩ := q
                  rw [hf] at po
                  dsimp only at po
                  rw [hm] at hf
                  have r1' : RepD K ct G2 H2 nd v1 g1 := r1.mono x2.le fun a m => x2.fr a (w.hn a (by rw [h2]; simp [m])) (by simp)
                  have wp : WS G2 H2 ((g1 ++ fk) ++ ((fa ++ ga) ++ (gb ++ fb))) := x2w.ws.perm (by
                    rw [h2, List.perm_iff_count]
                    intro a
                    simp only [List.count_append]
                    omega)
                  refine M.ok o G2 H2 nd v1 g1 ds vs fk x' u wp.left r1' rk hf _ fun y G' H' f' fu z rd ru => ?_
                  have z2 := z.beside wp
                  have keep := z.keep wp
                  have k1 : ∀ b, b ∈ ga ++ gb → H' b = H2 b := fun b m => keep b (by
                    simp only [List.mem_append] at m ⊢
                    rcases m with z | z <;> simp [z])
                  have k2 : ∀ b, b ∈ fa ++ fb → H' b = H2 b := fun b m => keep b (by
                    simp only [List.mem_append] at m ⊢
                    rcases m with z | z <;> simp [z])
                  have old : ∀ b, b ∈ fs → H2 b = H b := fun b m => x2.fr b (w.hn b m) (by simp)
                  have k1' : ∀ b, b ∈ ga ++ gb → H' b = H b := fun b m => (k1 b m).trans (old b (by
                    rw [h2]
                    simp only [List.mem_append] at m ⊢
                    rcases m with z | z <;> simp [z]))
                  have k2' : ∀ b, b ∈ fa ++ fb → H' b = H b := fun b m => (k2 b m).trans (old b (by
                    rw [h2]
                    simp only [List.mem_append] at m ⊢
                    rcases m with z | z <;> simp [z]))
                  have le : Le G G' := x2.le.trans z.le
                  have q2 := h4 G' H' (.tup (l.set j x')) (ga ++ f' ++ gb) le k2' ⟨t, ts, rfl, le.sqT et, up G' H' x' f' le k1' rd⟩
                  have z3 : XT G2 H2 (fs ++ fk) G' H' (fa ++ (ga ++ f' ++ gb) ++ fb) := ((z2.permL (gs := fs ++ fk) fun a m => by
                    rw [h2]
                    simp only [List.mem_append] at m ⊢
                    rcases m with (q | q) | (q | q) | q | q <;> simp [q]).drop (fun a m => by
                    simp only [List.mem_append] at m ⊢
                    rcases m with (q | (q | q) | q) | q <;> simp [q]) (by
                    have nd := z2.ws.nd
                    have p : ((f' ++ fu) ++ ((fa ++ ga) ++ (gb ++ fb))).Perm ((fa ++ (ga ++ f' ++ gb) ++ fb) ++ fu) := by
                      rw [List.perm_iff_count]
                      intro a
                      simp only [List.count_append]
                      omega
                    exact (List.nodup_append.mp (p.nodup_iff.mp nd)).1))
                  have x23 := x2w.trans z3
                  exact po σ G' H' _ x23 q2 fun _ _ => rfl
          · rw [if_neg ht] at po; exact po.elim
      | _ => exact po.elim
end LD
namespace LD
open PySem PySem.Spec PyProof.Rows L2
variable {K : PySem.W.Frag} {ct : Str → Option Addr} {O : Ops K ct} {M : MO K ct} {P : Pg} {mf : MOp → D → List D → Option (D × D)}

theorem get_kid {G H G2 H2 : Hp} {nd x kd : D} {v yv : V} {f fk : List Addr} {j : Nat} (rd : RepD K ct G H nd v f) (hk : ixKid nd kd = some j) (hg : getAt [j] nd = some x) (ri : RepD K ct G2 H2 kd yv fk) (keep : ∀ a, H a ≠ none → H2 a = H a) :
    ∃ u f', RepD K ct G H x u f' ∧ ∀ Q : VK, Q u H2 → rGetQ K v yv H2 Q := by
  obtain ⟨ho, hy⟩ := getAt1 hg
  obtain ⟨a, o, u, fa, f1, fb, rfl, e1, e2, rfl, r1, _⟩ := rd.kid ho hy
  refine ⟨u, f1, r1, fun Q q => ?_⟩
  cases nd with
  | lst m l =>
    cases m with
    | false => cases ho
    | true =>
      obtain ⟨a', xs, f', q1, q2, e3, rl⟩ := rd
      injection q1 with q1
      subst q1
      cases kd with
      | int i =>
        obtain ⟨rfl, _⟩ := ri
        refine .inl ⟨a, xs, i, u, rfl, rfl, .inl (.inl (by rw [keep a (by rw [e3]; exact fun q => by cases q)]; exact e3)), ?_, q⟩
        rw [e3] at e1
        cases e1
        have hk' : ixN l.length i = some j := hk
        unfold atI
        rw [rl.length, hk']
        exact e2
      | _ => cases hk
  | dct m ks l =>
    cases m with
    | false => cases ho
    | true =>
      obtain ⟨a', xs, f', q1, q2, e3, ll, rl⟩ := rd
      injection q1 with q1
      subst q1
      have hk' : ((keyOf kd).bind fun k => ks.findIdx? fun j => decide (j = k)) = some j := hk
      cases hkey : keyOf kd with
      | none => rw [hkey] at hk'; cases hk'
      | some kk =>
        rw [hkey] at hk'
        have hk2 : (ks.findIdx? fun j => decide (j = kk)) = some j := hk'
        have ey : yv = kV kk := by
          cases kd with
          | int i => obtain ⟨rfl, _⟩ := ri; cases hkey; rfl
          | str s => obtain ⟨rfl, _⟩ := ri; cases hkey; rfl
          | _ => cases hkey
        subst ey
        rw [e3] at e1
        cases e1
        have e4 : ((ks.zip xs)[j]?).map (·.2) = some u := e2
        refine .inr ⟨a, u, rfl, .inl ⟨_, kk, .inl (by rw [keep a (by rw [e3]; exact fun q => by cases q)]; exact e3), rfl, ?_⟩, q⟩
        refine (findIdx_val hk2 ?_).symm
        cases hz : (ks.zip xs)[j]? with
        | none => rw [hz] at e4; cases e4
        | some q =>
          rw [hz] at e4
          have e5 : q.2 = u := Option.some.inj e4
          rw [(List.getElem?_zip_eq_some.mp hz).2, e5]
  | ins m c fl l => cases hk
  | _ => cases ho
theorem ss_augI (F : Fit O P) (hm : mf = M.f) {W : WX} {α : Env} {i : Nat} {ps : List Pst} {k e : E} {sub : Bool} : SoS K ct (fun D σ H => semPath O P W ps (tVar i) σ H fun x H1 => semE O P W k σ H1 fun y H2 => rGetQ K x y H2 fun c H3 => semE O P W e σ H3 fun z H4 => ipI (fun a b => sgn sub a b) c z H4 fun u H5 => M.r .setI x [y, u] H5 fun _ H6 => D.nx σ H6) W α
    (match α[i]? with
    | some (some d) => match evPath P α ps d with
      | .bad => .bad
      | .exc x => .exc x α
      | .ok p => match getAt p d with
        | none => .bad
        | some nd => match evE P k α with
          | .bad => .bad
          | .exc x => .exc x α
          | .ok kd => match ixKid nd kd with
            | none => .bad
            | some j => match getAt [j] nd with
              | some (.int x) => match evE P e α with
                | .bad => .bad
                | .exc z => .exc z α
                | .ok (.int y) => match mutAt mf .setI i p [kd, .int (sgn sub x y)] α with
                  | none => .bad
                  | some (_, α) => .nx α
                | .ok _ => .bad
              | _ => .bad
    | _ => .bad) [] := by
  intro G H σ fs En pins w r pn po
  cases hi : α[i]? with
  | none => rw [hi] at po; exact po.elim
  | some oo =>
    cases oo with
    | none => rw [hi] at po; exact po.elim
    | some d =>
      rw [hi] at po
      dsimp only at po
      obtain ⟨v0, fa, f, fb, h1, h2, h3, h4⟩ := r.at hi
      refine so_path F w r ps d v0 f (tVar i) _ (fun Q' hQ' => ⟨v0, h1, hQ' G H (XT.refl (WS.nil w.le))⟩) h3 (fun a m => by rw [h2]; simp [m]) ?_
      cases hp : evPath P α ps d with
      | bad => rw [hp] at po; exact po
      | exc x => rw [hp] at po; exact po_x_of w r (PoS.x po)
      | ok p =>
        rw [hp] at po
        dsimp only at po
        intro v1 G1 H1 x1 hv
        have x1s := st_of x1 w
        rw [List.append_nil] at x1s
        have r1 := (stay x1 w r).2
        have po1 := PoS.later x1s (fun _ _ => rfl) po
        cases hg : getAt p d with
        | none => rw [hg] at po1; exact po1.elim
        | some nd =>
          rw [hg] at po1
          dsimp only at po1
          obtain ⟨v0', v1', ga, f1, gb, q1, q2, q3, q4, _⟩ := at_place r1 hi hg
          rw [h1] at q1
          have e1 : v0 = v0' := Option.some.inj (Option.some.inj q1)
          subst e1
          rw [hv] at q2
          have e2 : v1 = v1' := Option.some.inj q2
          subst e2
          refine sE F k W α G1 H1 σ fs _ x1s.ws r1 ?_
          cases hk : evE P k α with
          | bad => rw [hk] at po1; exact po1
          | exc z => rw [hk] at po1; exact po_x_of x1s.ws r1 (PoS.x po1)
          | ok kd =>
            rw [hk] at po1
            dsimp only at po1
            intro yv G2 H2 fk x2 rk
            have x2s := st_of x2 x1s.ws
            have r2 := (stay x2 x1s.ws r1).2
            cases hj : ixKid nd kd with
            | none => rw [hj] at po1; exact po1.elim
            | some j =>
              rw [hj] at po1
              dsimp only at po1
              cases hgj : getAt [j] nd with
              | none => rw [hgj] at po1; exact po1.elim
              | some xd =>
                cases xd with
                | int x =>
                  rw [hgj] at po1
                  dsimp only at po1
                  have keep2 : ∀ a, H1 a ≠ none → H2 a = H1 a := fun a h => x2.fr a h (by simp)
                  obtain ⟨u, fu, ru, gk⟩ := get_kid q4 hj hgj rk keep2
                  obtain ⟨rfl, rfl⟩ := ru
                  refine gk _ ?_
                  have w2 : WS G2 H2 fs := x2s.ws.left
                  have po2 := PoS.later (x2s.trans (XT.letgo x2s.ws)) (fun _ _ => rfl) po1
                  refine sE F e W α G2 H2 σ fs _ w2 r2 ?_
                  cases he : evE P e α with
                  | bad => rw [he] at po2; exact po2
                  | exc z => rw [he] at po2; exact po_x_of w2 r2 (PoS.x po2)
                  | ok dy =>
                    rw [he] at po2
                    cases dy with
                    | int y =>
                      dsimp only at po2
                      intro zv G3 H3 fz x3 rz
                      obtain ⟨rfl, rfl⟩ := rz
                      refine ⟨x, y, rfl, rfl, ?_⟩
                      have w2k : WS G2 H2 (fs ++ fk) := x2s.ws
                      have x3k : XT G2 H2 (fs ++ fk) G3 H3 (fs ++ fk) := by
                        have := x3.beside (r := fs ++ fk) (fs := []) w2k
                        exact this
                      have r3 := (stay x3 w2 r2).2
                      have rk3 : RepD K ct G3 H3 kd yv fk := rk.mono x3.le fun a m => x3.fr a (w2k.hn a (List.mem_append_right _ m)) (by simp)
                      cases hmt : mutAt mf .setI i p [kd, .int (sgn sub x y)] α with
                      | none => rw [hmt] at po2; exact po2.elim
                      | some t =>
                        obtain ⟨ud, α2⟩ := t
                        rw [hmt] at po2
                        dsimp only at po2
                        have keep3 : ∀ a, H1 a ≠ none → H3 a = H1 a := fun a h => by
                          have e := keep2 a h
                          rw [x3.fr a (by rw [e]; exact h) (by simp), e]
                        refine ss_mutAt (W := W) (g := fk) (vs := [yv, .int (sgn sub x y)]) (ds := [kd, .int (sgn sub x y)]) hm x3k.ws r3 ⟨yv, [_], fk, [], rfl, by simp, rk3, _, [], [], [], rfl, rfl, ⟨rfl, rfl⟩, rfl, rfl⟩ h1 (vAt_mono keep3 hv) hmt _ fun z G4 H4 fs4 fu x4 r4 ru => ?_
                        have po4 : PoS K ct G1 H1 fs σ W En pins (.nx α2) := by
                          have q := po1
                          rw [he] at q
                          dsimp only at q
                          rw [hmt] at q
                          exact q
                        exact (PoS.later ((x2s.trans x3k).trans x4) (fun _ _ => rfl) po4) σ G4 H4 fs4 (XT.letgo x4.ws) r4 fun _ _ => rfl
                    | _ => exact po2.elim
                | _ => rw [hgj] at po1; exact po1.elim
/-! ### try -/
theorem rep_exn {G H : Hp} {fs fp : List Addr} {m : Bool} {b : Str} {ff : List Str} {ds : List D} {cls : Value} {dx : Option Addr} (w : WS G H (fs ++ fp)) (rx : RepX K ct G H (.ins m b ff ds) cls dx fp) {a : Addr} (na : H a = none) :
    ∃ B G2, cls = .ref B ∧ ct b = some B ∧ XT G H (fs ++ fp) G2 (upd H a (XO B dx a)) fs ∧ RepD K ct G2 (upd H a (XO B dx a)) (.exn b ff (D.freezeL ds)) (.ref a) [] := by
  have key : ∀ B, XT G H (fs ++ fp) (frozen (upd G a (XO B dx a)) (upd H a (XO B dx a)) fp) (upd H a (XO B dx a)) fs := fun B => by
    have x1 := XT.newG (o := XO B dx a) w na
    have w1 : WS (upd G a (XO B dx a)) (upd H a (XO B dx a)) (fp ++ fs) := x1.ws.perm List.perm_append_comm
    exact x1.trans ((XT.frz w1).permL fun q m => List.mem_append.mpr (List.mem_append.mp m).symm)
  have ga : ∀ B, frozen (upd G a (XO B dx a)) (upd H a (XO B dx a)) fp a = some (XO B dx a) := fun B => by
    unfold frozen
    split <;> exact upd_same
  unfold RepX at rx
  split at rx
  · rename_i e
    cases e
    obtain ⟨B, hB, hc, hd, hf⟩ := rx
    subst hd
    exact ⟨B, _, hc, hB, key B, rfl, a, B, none, [], rfl, hB, .inl (ga B), rfl, rfl, rfl, rfl⟩
  · rename_i f d e
    cases e
    obtain ⟨B, q, v, g, hB, hc, hd, hf, hq, rd⟩ := rx
    subst hd
    have qa : q ≠ a := fun e => by rw [e, na] at hq; cases hq
    have x := key B
    subst hf
    refine ⟨B, _, hc, hB, x, rfl, a, B, some q, [v], rfl, hB, .inl (ga B), .inl ?_, rfl, ?_⟩
    · unfold frozen
      rw [if_pos List.mem_cons_self, upd_ne qa]
      exact hq
    · have le0 : Le G (upd G a (XO B (some q) a)) := (XT.newG (o := XO B (some q) a) w na).le
      have w1 : WS (upd G a (XO B (some q) a)) (upd H a (XO B (some q) a)) ((q :: g) ++ fs) := (XT.newG (o := XO B (some q) a) w na).ws.perm List.perm_append_comm
      have le1 := (XT.frz w1).le
      have rd1 : RepD K ct (upd G a (XO B (some q) a)) (upd H a (XO B (some q) a)) d v g := rd.mono le0 fun b m => upd_ne fun e => w.hn b (List.mem_append_right _ (List.mem_cons_of_mem _ m)) (by rw [e]; exact na)
      exact ⟨v, [], [], [], rfl, rfl, RepD.frz le1 rd1 fun b m => List.mem_cons_of_mem _ m, rfl, rfl⟩
  · exact rx.elim
theorem po_out {G H : Hp} {fs : List Addr} {σ σ2 : L2.St} {W : WX} {En : Ends} {pins : List Nat} {i : Option Nat} {o : RS} (hi : ∀ k, k ∈ pins → k ∉ i.toList) (hk : Pin pins σ σ2) (p : PoS K ct G H fs σ W En pins (outS i o)) : PoS K ct G H fs σ2 W0 (eO i En) pins o := by
  cases i with
  | none =>
    cases o with
    | nx β => exact fun σ' G' H' fs' x r k => p σ' G' H' fs' x r fun j m => (k j m).trans (hk j m)
    | ret d β => exact fun v σ' G' H' fs' fp x r rd k => p v σ' G' H' fs' fp x r rd fun j m => (k j m).trans (hk j m)
    | brk β => exact fun σ' G' H' fs' x r k => p σ' G' H' fs' x r fun j m => (k j m).trans (hk j m)
    | ct β => exact fun σ' G' H' fs' x r k => p σ' G' H' fs' x r fun j m => (k j m).trans (hk j m)
    | exc x β => exact p.elim
    | bad => exact p.elim
  | some j0 =>
    have pin : ∀ {σ' : L2.St}, Pin pins σ2 σ' → Pin pins σ (σ'.set j0 none) := fun {σ'} k j m => by
      have ne : j0 ≠ j := fun e => hi j m (by rw [e]; exact List.mem_singleton.mpr rfl)
      rw [List.getElem?_set_ne ne, k j m, hk j m]
    cases o with
    | nx β =>
      intro σ' G' H' fs' x r k
      obtain ⟨gs, m1, n1, r1⟩ := r.unset j0 none x.ws.nd
      exact p _ G' H' gs (x.drop m1 n1) r1 (pin k)
    | brk β =>
      intro σ' G' H' fs' x r k
      obtain ⟨gs, m1, n1, r1⟩ := r.unset j0 none x.ws.nd
      exact p _ G' H' gs (x.drop m1 n1) r1 (pin k)
    | ct β =>
      intro σ' G' H' fs' x r k
      obtain ⟨gs, m1, n1, r1⟩ := r.unset j0 none x.ws.nd
      exact p _ G' H' gs (x.drop m1 n1) r1 (pin k)
    | ret d β =>
      intro v σ' G' H' fs' fp x r rd k
      obtain ⟨gs, m1, n1, r1⟩ := r.unset j0 none x.ws.left.nd
      have q := List.nodup_append.mp x.ws.nd
      refine p v _ G' H' gs fp (x.drop (fun a m => ?_) (List.nodup_append.mpr ⟨n1, q.2.1, fun a m b m' => q.2.2 a (m1 a m) b m'⟩)) r1 rd (pin k)
      rcases List.mem_append.mp m with z | z
      · exact List.mem_append_left _ (m1 a z)
      · exact List.mem_append_right _ z
    | exc x β => exact p.elim
    | bad => exact p.elim
theorem ss_try (F : Fit O P) {W : WX} {α : Env} {c : Str} {i : Option Nat} {tb : WX → TS} {th : TS} {ob : RS} {oh : Env → RS} {gb gh : List Nat} (hb : ∀ W', SoS K ct (tb W') W' α ob gb) (hh : ∀ α, SoS K ct th W0 α (oh α) gh) :
    SoS K ct (fun D σ H => tb (wT K ct c i th W D) D σ H) W α (tryR P.sx c i oh ob) (gb ++ (i.toList ++ gh)) := by
  intro G H σ fs En pins w r pn p
  have pb : ∀ k, k ∈ pins → k ∉ gb := fun k m z => pn k m (List.mem_append_left _ z)
  have pi : ∀ k, k ∈ pins → k ∉ i.toList := fun k m z => pn k m (List.mem_append_right _ (List.mem_append_left _ z))
  have ph : ∀ k, k ∈ pins → k ∉ gh := fun k m z => pn k m (List.mem_append_right _ (List.mem_append_right _ z))
  refine hb _ G H σ fs En pins w r pb ?_
  cases ho : ob with
  | nx β => rw [ho] at p; exact p
  | ret d β => rw [ho] at p; exact p
  | brk β => rw [ho] at p; exact p
  | ct β => rw [ho] at p; exact p
  | bad => rw [ho] at p; exact p
  | exc x α1 =>
    rw [ho] at p
    intro cls dx σ' G' H' fs' fp z r1 rx k
    cases x with
    | ins m b ff ds =>
      have p' : PoS K ct G H fs σ W En pins (match P.sx b c with
        | some true => match i with
          | some j => if j < α1.length then outS i (oh (α1.set j (some (.exn b ff (D.freezeL ds))))) else .bad
          | none => outS i (oh α1)
        | some false => .exc (.ins m b ff ds) α1
        | none => .bad) := by
        unfold tryR at p
        cases i <;> exact p
      have hcls : ∃ B, ct b = some B ∧ cls = .ref B := by
        unfold RepX at rx
        split at rx
        · rename_i e
          cases e
          obtain ⟨B, h1, h2, _⟩ := rx
          exact ⟨B, h1, h2⟩
        · rename_i e
          cases e
          obtain ⟨B, _, _, _, h1, h2, _⟩ := rx
          exact ⟨B, h1, h2⟩
        · exact rx.elim
      obtain ⟨B0, hB0, rfl⟩ := hcls
      cases hs : P.sx b c with
      | none => rw [hs] at p'; exact p'.elim
      | some kk =>
        obtain ⟨B, C, hB, hC, he⟩ := F.sx b c kk hs
        rw [hB0] at hB
        cases hB
        rw [hs] at p'
        cases kk with
        | false => exact ⟨C, false, hC, he, fun e => (by cases e), fun _ => p' _ _ σ' G' H' fs' fp z r1 rx k⟩
        | true =>
          refine ⟨C, true, hC, he, fun _ a na => ?_, fun e => by cases e⟩
          obtain ⟨B1, G2, e1, e2, x2, rd⟩ := rep_exn z.ws rx na
          cases e1
          refine ⟨B0, rfl, ?_⟩
          have mono : ∀ q, q ∈ fs' → upd H' a (XO B0 dx a) q = H' q := fun q m => upd_ne fun e => z.ws.hn q (List.mem_append_left _ m) (by rw [e]; exact na)
          have r2 : RepS K ct G2 (upd H' a (XO B0 dx a)) α1 σ' fs' := r1.mono x2.le mono
          cases i with
          | none => exact hh _ _ _ _ _ _ pins x2.ws r2 ph (po_out (i := none) pi k (PoS.later (z.trans x2) (fun _ _ => rfl) p'))
          | some j =>
            have p2 : PoS K ct G H fs σ W En pins (if j < α1.length then outS (some j) (oh (α1.set j (some (.exn b ff (D.freezeL ds))))) else .bad) := p'
            split at p2
            · rename_i hj
              obtain ⟨gs, m1, n1, r3⟩ := r2.put (i := j) rd hj (by rw [List.nil_append]; exact x2.ws.nd)
              have x3 := x2.drop (gs := gs) (fun q m => by have := m1 q m; rwa [List.nil_append] at this) n1
              refine hh _ _ _ _ _ _ pins x3.ws r3 ph (po_out (i := some j) pi (fun q m => ?_) (PoS.later (z.trans x3) (fun _ _ => rfl) p2))
              have ne : j ≠ q := fun e => pi q m (by rw [e]; exact List.mem_singleton.mpr rfl)
              show (σ'.set j (some (V.ref a)))[q]? = σ[q]?
              rw [List.getElem?_set_ne ne]
              exact k q m
            · exact p2.elim
    | _ => exact p.elim
/-! ### all statements -/
theorem sS (F : Fit O P) (hm : mf = M.f) (n : Nat) (W : WX) : ∀ (s : S) (α : Env), SoS K ct (semS O M P W s) W α (runS P mf n s α) s.asgs
  | .skip, α => fun G H σ fs En pins w r pn po => po σ G H fs (XT.refl w) r fun _ _ => rfl
  | .seq a b, α => ss_seq (sS F hm n W a α) (sS F hm n W b)
  | .asg p c, α => ss_asg F
  | .par i j a b, α => ss_par F
  | .drop c, α => ss_drop F
  | .ret c, α => ss_ret F
  | .retN, α => fun G H σ fs En pins w r pn po => po .non σ G H fs [] (by rw [List.append_nil]; exact XT.refl w) r ⟨rfl, rfl⟩ fun _ _ => rfl
  | .ife t a b, α => ss_ife F (sS F hm n W a) (sS F hm n W b)
  | .for_ p o es b, α => ss_for F (sS F hm n W b)
  | .whl t b, α => ss_whl F (sS F hm n W b) n
  | .brk, α => fun G H σ fs En pins w r pn po => po σ G H fs (XT.refl w) r fun _ _ => rfl
  | .cnt, α => fun G H σ fs En pins w r pn po => po σ G H fs (XT.refl w) r fun _ _ => rfl
  | .frz i s, α => ss_frz (sS F hm n W s)
  | .mut pt ty i ps o as, α => ss_mut F hm
  | .setI i ps e c, α => ss_setI F hm
  | .setF i ps f c, α => ss_setF F hm
  | .aug i sub e, α => ss_aug F
  | .augI i ps k sub e, α => ss_augI F hm
  | .never, α => fun G H σ fs En pins w r pn po => po.elim
  | .raise0 c, α => ss_raise0 F
  | .try_ b c i h, α => ss_try F (fun W' => sS F hm n W' b α) (sS F hm n W0 h)
  | .bor i s, α => ss_bor (sS F hm n W s)
  | .each x i ps ty o, α => ss_each F hm
  | .eachT x i j ty o, α => ss_eachT F hm
  | .mutT ty i j o es, α => ss_mutT F hm
  | .raise1 c f a, α => ss_raise1 F

/-! ### defs -/
structure Fn where
  np : Nat
  ns : Nat
  body : S
def Fn.pins (f : Fn) : List Nat := (List.range f.np).filter fun i => !f.body.asgs.contains i
def Fn.start (f : Fn) (ds : List D) : Env := ds.map some ++ List.replicate (f.ns - f.np) none
/-- what the parameters are at the end -/
def fins (pins : List Nat) : Nat → Env → Nat → List (Option D)
  | _, _, 0 => []
  | i, [], k + 1 => none :: fins pins (i + 1) [] k
  | i, o :: α, k + 1 => (if pins.contains i = true then o else none) :: fins pins (i + 1) α k
def runF (P : Pg) (mf : MOp → D → List D → Option (D × D)) (n : Nat) (f : Fn) (ds : List D) : RF :=
  if ds.length = f.np then match runS P mf n f.body (f.start ds) with
    | .nx α => .ok .non (fins f.pins 0 α f.np)
    | .ret d α => .ok d (fins f.pins 0 α f.np)
    | .exc x α => .exc x (fins f.pins 0 α f.np)
    | _ => .bad
  else .bad
theorem RepS.args {G H : Hp} (k : Nat) : ∀ {ds : List D} {vs : List V} {fs : List Addr}, RepL K ct G H ds vs fs → RepS K ct G H (ds.map some ++ List.replicate k none) (vs.map some ++ List.replicate k none) fs
  | [], _, _, ⟨h, h'⟩ => by
    subst h
    subst h'
    show RepS K ct G H (List.replicate k none) (List.replicate k none) []
    induction k with
    | zero => exact ⟨rfl, rfl⟩
    | succ k ih => exact ⟨none, _, rfl, ih⟩
  | d :: ds, _, _, ⟨v, vs, f, g, e, e0, r, rs⟩ => by
    subst e
    exact ⟨v, _, f, g, rfl, e0, r, RepS.args k rs⟩
/-- the parameters that stayed, at the end -/
theorem fins_rep {G H : Hp} {pins : List Nat} : ∀ (k i : Nat) (α : Env) (σ : L2.St) (fs : List Addr) (vs : List V), RepS K ct G H α σ fs → fs.Nodup → vs.length = k → (∀ j, j < k → i + j ∈ pins → σ[j]? = (vs[j]?).map some) →
    ∃ gs, (∀ a, a ∈ gs → a ∈ fs) ∧ gs.Nodup ∧ RepF K ct G H (fins pins i α k) vs gs
  | 0, i, α, σ, fs, vs, r, nd, hl, h => ⟨[], fun a m => (by cases m), List.nodup_nil, rfl⟩
  | k + 1, i, α, σ, fs, [], r, nd, hl, h => by cases hl
  | k + 1, i, [], σ, fs, v :: vs, r, nd, hl, h => by
    obtain ⟨rfl, rfl⟩ := r
    obtain ⟨gs, h1, h2, h3⟩ := fins_rep k (i + 1) [] [] [] vs ⟨rfl, rfl⟩ List.nodup_nil (by simpa using hl) fun j hj hm => by
      have := h (j + 1) (by omega) (by rw [show i + (j + 1) = i + 1 + j by omega]; exact hm)
      simpa using this
    exact ⟨gs, h1, h2, v, vs, rfl, h3⟩
  | k + 1, i, none :: α, σ, fs, v :: vs, ⟨x, r, e, hs⟩, nd, hl, h => by
    obtain ⟨gs, h1, h2, h3⟩ := fins_rep k (i + 1) α r fs vs hs nd (by simpa using hl) fun j hj hm => by
      have := h (j + 1) (by omega) (by rw [show i + (j + 1) = i + 1 + j by omega]; exact hm)
      rw [e] at this
      simpa using this
    refine ⟨gs, h1, h2, ?_⟩
    show RepF K ct G H ((if pins.contains i = true then none else none) :: fins pins (i + 1) α k) (v :: vs) gs
    rw [ite_self]
    exact ⟨v, vs, rfl, h3⟩
  | k + 1, i, some d :: α, σ, fs, v :: vs, ⟨x, r, f, g, e, e0, rd, hs⟩, nd, hl, h => by
    subst e0
    have q := List.nodup_append.mp nd
    obtain ⟨gs, h1, h2, h3⟩ := fins_rep k (i + 1) α r g vs hs q.2.1 (by simpa using hl) fun j hj hm => by
      have := h (j + 1) (by omega) (by rw [show i + (j + 1) = i + 1 + j by omega]; exact hm)
      rw [e] at this
      simpa using this
    show ∃ gs, _ ∧ _ ∧ RepF K ct G H ((if pins.contains i = true then some d else none) :: fins pins (i + 1) α k) (v :: vs) gs
    by_cases hp : pins.contains i = true
    · rw [if_pos hp]
      have hv := h 0 (by omega) (by simpa using hp)
      rw [e] at hv
      have hv' : x = v := by simpa using hv
      subst hv'
      refine ⟨f ++ gs, fun a m => ?_, List.nodup_append.mpr ⟨q.1, h2, fun a m b m' => q.2.2 a m b (h1 b m')⟩, x, vs, f, gs, rfl, rfl, rd, h3⟩
      rcases List.mem_append.mp m with z | z
      · exact List.mem_append_left _ z
      · exact List.mem_append_right _ (h1 a z)
    · rw [if_neg hp]
      exact ⟨gs, fun a m => List.mem_append_right _ (h1 a m), h2, v, vs, rfl, h3⟩
/-- a body that a reading fits: the promise -/
theorem fn_body (F : Fit O P) (hm : mf = M.f) {n : Nat} {f : Fn} (hns : f.np ≤ f.ns) {N : List Str} (hN : N.length = f.ns) {vs : List V} {H : Hp} {Q : VK} {E : XK} (h : spR K ct (runF P mf n f) vs H Q E) :
    semS O M P (fun cls d _ H => E cls d H) f.body { nx := fun _ H' => Q .non H', rt := Q } (L2.start N vs) H := by
  obtain ⟨G, ds, fs, w, rl, hc⟩ := h
  have e : runF P mf n f ds = if ds.length = f.np then match runS P mf n f.body (f.start ds) with
    | .nx α => .ok .non (fins f.pins 0 α f.np)
    | .ret d α => .ok d (fins f.pins 0 α f.np)
    | .exc x α => .exc x (fins f.pins 0 α f.np)
    | _ => .bad
    else .bad := rfl
  rw [e] at hc
  by_cases hl : ds.length = f.np
  · rw [if_pos hl] at hc
    have es : L2.start N vs = vs.map some ++ List.replicate (f.ns - f.np) none := by
      unfold L2.start
      rw [hN, rl.length, hl]
    have r0 : RepS K ct G H (f.start ds) (L2.start N vs) fs := by
      rw [es]
      exact RepS.args _ rl
    have fin : ∀ α' σ' G' H' gs, RepS K ct G' H' α' σ' gs → gs.Nodup → Pin f.pins (L2.start N vs) σ' → ∃ hs, (∀ a, a ∈ hs → a ∈ gs) ∧ hs.Nodup ∧ RepF K ct G' H' (fins f.pins 0 α' f.np) vs hs := by
      intro α' σ' G' H' gs r nd k
      refine fins_rep f.np 0 α' σ' gs vs r nd (by rw [rl.length, hl]) fun j hj hm => ?_
      rw [Nat.zero_add] at hm
      rw [k j hm, es, List.getElem?_append_left (by rw [List.length_map, rl.length, hl]; exact hj), List.getElem?_map]
    refine sS F hm n _ f.body (f.start ds) G H (L2.start N vs) fs _ f.pins w r0 (fun i m => ?_) ?_
    · have := (List.mem_filter.mp m).2
      simpa using this
    · cases ho : runS P mf n f.body (f.start ds) with
      | nx α' =>
        rw [ho] at hc
        intro σ' G' H' fs' x r k
        obtain ⟨hs, m1, n1, rf⟩ := fin α' σ' G' H' fs' r x.ws.nd k
        exact hc .non G' H' hs [] (by rw [List.append_nil]; exact x.drop m1 n1) rf ⟨rfl, rfl⟩
      | ret d α' =>
        rw [ho] at hc
        intro v σ' G' H' fs' fp x r rd k
        obtain ⟨hs, m1, n1, rf⟩ := fin α' σ' G' H' fs' r x.ws.left.nd k
        have q := List.nodup_append.mp x.ws.nd
        refine hc v G' H' hs fp (x.drop (fun a m => ?_) (List.nodup_append.mpr ⟨n1, q.2.1, fun a m b m' => q.2.2 a (m1 a m) b m'⟩)) rf rd
        rcases List.mem_append.mp m with z | z
        · exact List.mem_append_left _ (m1 a z)
        · exact List.mem_append_right _ z
      | exc ex α' =>
        rw [ho] at hc
        intro cls dx σ' G' H' fs' fp x r rd k
        obtain ⟨hs, m1, n1, rf⟩ := fin α' σ' G' H' fs' r x.ws.left.nd k
        have q := List.nodup_append.mp x.ws.nd
        refine hc cls dx G' H' hs fp (x.drop (fun a m => ?_) (List.nodup_append.mpr ⟨n1, q.2.1, fun a m b m' => q.2.2 a (m1 a m) b m'⟩)) rf rd
        rcases List.mem_append.mp m with z | z
        · exact List.mem_append_left _ (m1 a z)
        · exact List.mem_append_right _ z
      | brk α' => rw [ho] at hc; exact (show False from hc).elim
      | ct α' => rw [ho] at hc; exact (show False from hc).elim
      | bad => rw [ho] at hc; exact hc
  · rw [if_neg hl] at hc; exact hc.elim
end LD
namespace LD
open PySem PySem.Spec PyProof.Rows L2
variable {K : PySem.W.Frag} {ct : Str → Option Addr}

/-! ### list + list of any kind -/
def rCatS (K : PySem.W.Frag) : R2 := fun x y H Q => ∃ l b xs zs, x = .ref l ∧ y = .ref b ∧ SqL K H l xs ∧ SqL K H b zs ∧ xs.length + zs.length ≤ sizeLine ∧ ∀ p, H p = none → Q (.ref p) (upd H p (.lst (xs ++ zs)))
theorem op_catS {X : Cx} : OpR X (binaryOp .Add) (rCatS X.K) := by
  intro pins s σ H x y v u Q I rx ry h
  obtain ⟨l, b, xs, zs, rfl, rfl, hH, hB, hz, q⟩ := h
  cases rx
  cases ry
  obtain ⟨its, r, ⟨o1, n, e, c1, d1, dt1⟩, z⟩ := I.list hH
  obtain ⟨its2, r2, ⟨o2, n2, e2, c2, d2, dt2⟩, z2⟩ := I.list hB
  obtain ⟨cls, dd, data, sl⟩ := o1
  obtain ⟨cls2, dd2, data2, sl2⟩ := o2
  simp only at c1 d1 dt1 c2 d2 dt2
  subst c1 d1 dt1 c2 d2 dt2
  have l1 := r.length
  have l2 := r2.length
  refine concat_meets ⟨_, e, rfl⟩ ⟨_, e2, rfl⟩ noFill_list_add seq_list_add PySem.F.slot_list_add PySem.F.entry_list_add (PySem.F.args_list_add_2 _ _) (list_addW l b its.toArray its2.toArray n n2 _ _ sl sl2 (by rw [List.size_toArray, List.size_toArray]; omega)) ⟨e, e2, ?_⟩
  have ea : its.toArray ++ its2.toArray = (its ++ its2).toArray := by simp
  rw [ea]
  exact ⟨.ref _, _, I.lnew (t' := s.toks) (r.append r2) (by rw [List.length_append]; omega), rfl, q _ I.fresh⟩

/-! ### scalars on data -/
theorem RepL.nil_of {G H : Hp} {vs : List V} {fs : List Addr} (r : RepL K ct G H [] vs fs) : vs = [] ∧ fs = [] := r
theorem RepL.cons_of {G H : Hp} {d : D} {ds : List D} {vs : List V} {fs : List Addr} (r : RepL K ct G H (d :: ds) vs fs) : ∃ v r' f g, vs = v :: r' ∧ fs = f ++ g ∧ RepD K ct G H d v f ∧ RepL K ct G H ds r' g := r
theorem RepL.one {G H : Hp} {d : D} {vs : List V} {fs : List Addr} (r : RepL K ct G H [d] vs fs) : ∃ v, vs = [v] ∧ RepD K ct G H d v fs := by
  obtain ⟨v, r', f, g, rfl, rfl, rd, rfl, rfl⟩ := r
  exact ⟨v, rfl, by rw [List.append_nil]; exact rd⟩
theorem RepL.two {G H : Hp} {d e : D} {vs : List V} {fs : List Addr} (r : RepL K ct G H [d, e] vs fs) : ∃ v u f g, vs = [v, u] ∧ fs = f ++ g ∧ RepD K ct G H d v f ∧ RepD K ct G H e u g := by
  obtain ⟨v, r', f, g, rfl, rfl, rd, r2⟩ := r
  obtain ⟨u, rfl, re⟩ := RepL.one r2
  exact ⟨v, u, f, g, rfl, rfl, rd, re⟩
theorem RepL.three {G H : Hp} {d e c : D} {vs : List V} {fs : List Addr} (r : RepL K ct G H [d, e, c] vs fs) : ∃ v u w f g h, vs = [v, u, w] ∧ fs = f ++ (g ++ h) ∧ RepD K ct G H d v f ∧ RepD K ct G H e u g ∧ RepD K ct G H c w h := by
  obtain ⟨v, r', f, g, rfl, rfl, rd, r2⟩ := r
  obtain ⟨u, w, g', h, rfl, rfl, re, rc⟩ := RepL.two r2
  exact ⟨v, u, w, f, g', h, rfl, rfl, rd, re, rc⟩
theorem XT.off {G H : Hp} {fs : List Addr} (w : WS G H fs) : XT G H fs G H [] := (XT.refl w).none
/-- what is wanted of an answer -/
abbrev Wants (K : PySem.W.Frag) (ct : Str → Option Addr) (G H : Hp) (fs : List Addr) (d : D) (Q : VK) : Prop := ∀ v G' H' fp, XT G H fs G' H' fp → RepD K ct G' H' d v fp → Q v H'
theorem Wants.int {G H : Hp} {fs : List Addr} {i : Int} {Q : VK} (w : WS G H fs) (q : Wants K ct G H fs (.int i) Q) : Q (.int i) H := q _ G H [] (XT.off w) ⟨rfl, rfl⟩
theorem Wants.bl {G H : Hp} {fs : List Addr} {i : Bool} {Q : VK} (w : WS G H fs) (q : Wants K ct G H fs (.bl i) Q) : Q (.bl i) H := q _ G H [] (XT.off w) ⟨rfl, rfl⟩
theorem Wants.str {G H : Hp} {fs : List Addr} {i : Str} {Q : VK} (w : WS G H fs) (q : Wants K ct G H fs (.str i) Q) : Q (.str i) H := q _ G H [] (XT.off w) ⟨rfl, rfl⟩
theorem Wants.non {G H : Hp} {fs : List Addr} {Q : VK} (w : WS G H fs) (q : Wants K ct G H fs .non Q) : Q .non H := q _ G H [] (XT.off w) ⟨rfl, rfl⟩
/-- a new list of what is there (owned), the rest let go -/
theorem Wants.newL {G H : Hp} {fs gs : List Addr} {l : List D} {xs : List V} {Q : VK} (w : WS G H fs) (r : RepL K ct G H l xs gs) (hs : ∀ a, a ∈ gs → a ∈ fs) (nd : gs.Nodup) (q : Wants K ct G H fs (.lst true l) Q) : ∀ p, H p = none → Q (.ref p) (upd H p (.lst xs)) := by
  intro p hp
  have w' := w.sub hs nd
  have x := ((XT.refl w).drop hs nd).trans (XT.new (o := .lst xs) w' hp)
  exact q _ _ _ _ x ⟨p, xs, gs, rfl, rfl, upd_same, r.mono (Le.refl G) fun a m => upd_ne fun e => w'.hn a m (by rw [e]; exact hp)⟩
theorem Wants.newT {G H : Hp} {fs gs : List Addr} {l : List D} {xs : List V} {Q : VK} (w : WS G H fs) (r : RepL K ct G H l xs gs) (hs : ∀ a, a ∈ gs → a ∈ fs) (nd : gs.Nodup) (q : Wants K ct G H fs (.tup l) Q) : ∀ p, H p = none → Q (.ref p) (upd H p (.tup xs)) := by
  intro p hp
  have w' := w.sub hs nd
  have x1 := XT.newG (o := .tup xs) w' hp
  have x := ((XT.refl w).drop hs nd).trans x1
  exact q _ _ _ _ x ⟨p, xs, rfl, .inl (.inl upd_same), r.mono x1.le fun a m => upd_ne fun e => w'.hn a m (by rw [e]; exact hp)⟩
/-- a list's items -/
theorem RepD.lst_of {G H : Hp} {m : Bool} {l : List D} {v : V} {f : List Addr} (le : Le G H) (r : RepD K ct G H (.lst m l) v f) : ∃ a xs g, v = .ref a ∧ SqL K H a xs ∧ RepL K ct G H l xs g ∧ (∀ b, b ∈ g → b ∈ f) ∧ (f.Nodup → g.Nodup) := by
  cases m with
  | true =>
    obtain ⟨a, xs, g, rfl, rfl, e, rl⟩ := r
    exact ⟨a, xs, g, rfl, SqL.of e, rl, fun b m => List.mem_cons_of_mem _ m, fun n => (List.nodup_cons.mp n).2⟩
  | false =>
    obtain ⟨rfl, a, xs, rfl, e, rl⟩ := r
    exact ⟨a, xs, [], rfl, le.sqL e, rl, fun b m => m, fun n => n⟩
theorem RepD.tup_of {G H : Hp} {l : List D} {v : V} {f : List Addr} (le : Le G H) (r : RepD K ct G H (.tup l) v f) : ∃ a xs, v = .ref a ∧ SqT K H a xs ∧ RepL K ct G H l xs f := by
  obtain ⟨a, xs, rfl, e, rl⟩ := r
  exact ⟨a, xs, rfl, le.sqT e, rl⟩
theorem RepD.dct_of {G H : Hp} {m : Bool} {ks : List Key} {l : List D} {v : V} {f : List Addr} (le : Le G H) (r : RepD K ct G H (.dct m ks l) v f) : ∃ a xs g, v = .ref a ∧ Rd H a (.dK (ks.zip xs)) ∧ ks.length = l.length ∧ RepL K ct G H l xs g ∧ (∀ b, b ∈ g → b ∈ f) ∧ (f.Nodup → g.Nodup) := by
  cases m with
  | true =>
    obtain ⟨a, xs, g, rfl, rfl, e, ll, rl⟩ := r
    exact ⟨a, xs, g, rfl, .inl e, ll, rl, fun b m => List.mem_cons_of_mem _ m, fun n => (List.nodup_cons.mp n).2⟩
  | false =>
    obtain ⟨rfl, a, xs, rfl, e, ll, rl⟩ := r
    exact ⟨a, xs, [], rfl, le.rd _ _ e, ll, rl, fun b m => m, fun n => n⟩
theorem RepD.ins_of {G H : Hp} {m : Bool} {c : Str} {fs : List Str} {l : List D} {v : V} {f : List Addr} (le : Le G H) (r : RepD K ct G H (.ins m c fs l) v f) : ∃ a C dx xs g, v = .ref a ∧ ct c = some C ∧ H a = some (.ins C dx (fs.zip xs)) ∧ fs.length = l.length ∧ RepL K ct G H l xs g ∧ (∀ b, b ∈ g → b ∈ f) ∧ (f.Nodup → g.Nodup) := by
  cases m with
  | true =>
    obtain ⟨a, C, dx, xs, g, rfl, rfl, hc, e, ll, rl⟩ := r
    exact ⟨a, C, dx, xs, g, rfl, hc, e, ll, rl, fun b m => List.mem_cons_of_mem _ m, fun n => (List.nodup_cons.mp n).2⟩
  | false =>
    obtain ⟨rfl, a, C, dx, xs, rfl, hc, e, ll, rl⟩ := r
    exact ⟨a, C, dx, xs, [], rfl, hc, le.ins _ _ _ _ e, ll, rl, fun b m => m, fun n => n⟩
/-- the k-th, alone -/
theorem RepL.pick {G H : Hp} {ds : List D} {vs : List V} {f : List Addr} {k : Nat} {d : D} (r : RepL K ct G H ds vs f) (h : ds[k]? = some d) : ∃ v g, vs[k]? = some v ∧ RepD K ct G H d v g ∧ (∀ b, b ∈ g → b ∈ f) ∧ (f.Nodup → g.Nodup) := by
  obtain ⟨v, fa, f1, fb, h1, rfl, h3, _⟩ := RepL.at r h
  refine ⟨v, f1, h1, h3, fun b m => by simp [m], fun n => ?_⟩
  exact (List.nodup_append.mp (List.nodup_append.mp n).1).2.1
theorem Wants.sub {G H : Hp} {fs gs : List Addr} {d : D} {v : V} {Q : VK} (w : WS G H fs) (r : RepD K ct G H d v gs) (hs : ∀ a, a ∈ gs → a ∈ fs) (nd : gs.Nodup) (q : Wants K ct G H fs d Q) : Q v H :=
  q v G H gs ((XT.refl w).drop hs nd) r

/-! ### texts in order -/
theorem ltCps_irr : ∀ a : List Nat, ltCps a a = false
  | [] => rfl
  | x :: a => by
    show (decide (x < x) || (x == x && ltCps a a)) = false
    rw [ltCps_irr a]
    simp
theorem ltCps_trans : ∀ {a b c : List Nat}, ltCps a b = true → ltCps b c = true → ltCps a c = true
  | [], [], [], h, _ => by simp [ltCps] at h
  | [], _ :: _, [], _, h => by simp [ltCps] at h
  | [], _, _ :: _, _, _ => rfl
  | _ :: _, [], _, h, _ => by simp [ltCps] at h
  | _ :: _, _ :: _, [], _, h => by simp [ltCps] at h
  | x :: a, y :: b, z :: c, h, g => by
    have h' : (decide (x < y) || (x == y && ltCps a b)) = true := h
    have g' : (decide (y < z) || (y == z && ltCps b c)) = true := g
    show (decide (x < z) || (x == z && ltCps a c)) = true
    simp only [Bool.or_eq_true, decide_eq_true_eq, Bool.and_eq_true, beq_iff_eq] at h' g' ⊢
    rcases h' with h' | ⟨rfl, h'⟩ <;> rcases g' with g' | ⟨rfl, g'⟩
    · exact .inl (by omega)
    · exact .inl h'
    · exact .inl g'
    · exact .inr ⟨rfl, ltCps_trans h' g'⟩
theorem ltCps_eq : ∀ {a b : List Nat}, ltCps a b = false → ltCps b a = false → a = b
  | [], [], _, _ => rfl
  | [], _ :: _, h, _ => by simp [ltCps] at h
  | _ :: _, [], _, h => by simp [ltCps] at h
  | x :: a, y :: b, h, g => by
    have h' : (decide (x < y) || (x == y && ltCps a b)) = false := h
    have g' : (decide (y < x) || (y == x && ltCps b a)) = false := g
    simp only [Bool.or_eq_false_iff, decide_eq_false_iff_not, Bool.and_eq_false_iff, beq_eq_false_iff_ne] at h' g'
    have e : x = y := by omega
    subst e
    rcases h'.2 with z | z
    · exact absurd rfl z
    · rcases g'.2 with u | u
      · exact absurd rfl u
      · rw [ltCps_eq z u]
def leS (a b : Str) : Bool := !ltCps b.cps.toList a.cps.toList
theorem leS_trans {a b c : Str} (h : leS a b = true) (g : leS b c = true) : leS a c = true := by
  unfold leS at h g ⊢
  simp only [Bool.not_eq_true'] at h g ⊢
  cases hc : ltCps c.cps.toList a.cps.toList with
  | false => rfl
  | true =>
    -- c < a, a ≤ b, b ≤ c
    cases hab : ltCps a.cps.toList b.cps.toList with
    | true => rw [ltCps_trans hc hab] at g; cases g
    | false =>
      have e := ltCps_eq hab h
      rw [e] at hc
      rw [hc] at g
      cases g
theorem leS_anti {a b : Str} (h : leS a b = true) (g : leS b a = true) : a = b := by
  unfold leS at h g
  simp only [Bool.not_eq_true'] at h g
  have e := ltCps_eq g h
  cases a
  cases b
  simp only at e
  exact congrArg Str.mk (Array.toList_inj.mp e)
theorem leS_total {a b : Str} (h : ¬ leS a b = true) : leS b a = true := by
  unfold leS at h ⊢
  simp only [Bool.not_eq_true', Bool.not_eq_false] at h ⊢
  cases hb : ltCps a.cps.toList b.cps.toList with
  | false => rfl
  | true =>
    have := ltCps_trans h hb
    rw [ltCps_irr] at this
    cases this
def insS (x : Str) : List Str → List Str
  | [] => [x]
  | y :: r => if leS x y = true then x :: y :: r else y :: insS x r
def sortStr : List Str → List Str
  | [] => []
  | x :: r => insS x (sortStr r)
theorem insS_perm (x : Str) : ∀ l : List Str, (insS x l).Perm (x :: l)
  | [] => .refl _
  | y :: r => by
    unfold insS
    split
    · exact .refl _
    · exact ((insS_perm x r).cons y).trans (.swap x y r)
theorem sortStr_perm : ∀ l : List Str, (sortStr l).Perm l
  | [] => .refl _
  | x :: r => (insS_perm x _).trans ((sortStr_perm r).cons x)
theorem insS_sorted (x : Str) : ∀ {l : List Str}, l.Pairwise (fun a b => leS a b = true) → (insS x l).Pairwise fun a b => leS a b = true
  | [], _ => List.pairwise_singleton ..
  | y :: r, h => by
    rw [List.pairwise_cons] at h
    unfold insS
    split
    · rename_i c
      refine List.pairwise_cons.mpr ⟨fun z hz => ?_, List.pairwise_cons.mpr h⟩
      rcases List.mem_cons.mp hz with rfl | hz
      · exact c
      · exact leS_trans c (h.1 z hz)
    · rename_i c
      refine List.pairwise_cons.mpr ⟨fun z hz => ?_, insS_sorted x h.2⟩
      rcases List.mem_cons.mp ((insS_perm x r).mem_iff.mp hz) with rfl | hz
      · exact leS_total c
      · exact h.1 z hz
theorem sortStr_sorted : ∀ l : List Str, (sortStr l).Pairwise fun a b => leS a b = true
  | [] => .nil
  | x :: r => insS_sorted x (sortStr_sorted r)
theorem str_one : ∀ {l r : List Str}, l.Perm r → l.Pairwise (fun a b => leS a b = true) → r.Pairwise (fun a b => leS a b = true) → l = r
  | [], r, p, _, _ => by simpa using p.symm.eq_nil.symm
  | a :: l, [], p, _, _ => by simpa using p.eq_nil
  | a :: l, b :: r, p, h1, h2 => by
    rw [List.pairwise_cons] at h1 h2
    have ab : a = b := by
      have ha : a ∈ b :: r := p.mem_iff.mp List.mem_cons_self
      have hb : b ∈ a :: l := p.mem_iff.mpr List.mem_cons_self
      rcases List.mem_cons.mp ha with e | ha
      · exact e
      · rcases List.mem_cons.mp hb with e | hb
        · exact e.symm
        · exact leS_anti (h1.1 b hb) (h2.1 a ha)
    subst ab
    rw [str_one (List.Perm.cons_inv p) h1.2 h2.2]
theorem sortStr_eq {l r : List Str} (p : l.Perm r) : sortStr l = sortStr r := str_one ((sortStr_perm l).trans (p.trans (sortStr_perm r).symm)) (sortStr_sorted l) (sortStr_sorted r)
theorem rising_pair : ∀ (r : List Str) (p : Str), PyProof.Rows.risingS p r = true → (p :: r).Pairwise fun a b => leS a b = true
  | [], p, _ => List.pairwise_singleton ..
  | x :: r, p, h => by
    have h' : (!ltCps x.cps.toList p.cps.toList && PyProof.Rows.risingS x r) = true := h
    rw [Bool.and_eq_true] at h'
    have ih := rising_pair r x h'.2
    refine List.pairwise_cons.mpr ⟨fun z hz => ?_, ih⟩
    rcases List.mem_cons.mp hz with rfl | hz
    · exact h'.1
    · exact leS_trans (b := x) h'.1 ((List.pairwise_cons.mp ih).1 z hz)
theorem sortedS_pair {l : List Str} (h : PyProof.Rows.sortedS l = true) : l.Pairwise fun a b => leS a b = true := by
  cases l with
  | nil => exact .nil
  | cons x r => exact rising_pair r x h
end LD
namespace LD
open PySem PySem.Spec PyProof.Rows L2
variable {K : PySem.W.Frag} {ct : Str → Option Addr}

/-! ### what an operation answers on data -/
def mulOk (i j : Int) : Bool := decide (i.natAbs < 2 ^ 64) || decide (j.natAbs < 2 ^ 64)
def powOk (i j : Int) : Bool := decide (0 ≤ j) && decide (j ≤ 1000000) && decide (i.natAbs < 2 ^ 64)
def divOk (j : Int) : Bool := decide (0 < j) && decide (j.natAbs.log2 < 9000)
def repOk (n : Nat) (k : Int) : Bool := decide (-(2 ^ 63) ≤ k) && decide (k < 2 ^ 63) && decide (n * k.toNat < lim)
def fAdd : List D → Option D
  | [.int a, .int b] => some (.int (a + b))
  | [.str a, .str b] => if a.length + b.length < lim then some (.str (a ++ b)) else none
  | [.lst _ a, .lst _ b] => if a.length + b.length < lim then some (.lst true (a ++ b)) else none
  | [.tup a, .tup b] => if a.length + b.length < lim then some (.tup (a ++ b)) else none
  | _ => none
def fSub : List D → Option D
  | [.int a, .int b] => some (.int (a - b))
  | _ => none
def fMul : List D → Option D
  | [.int a, .int b] => if mulOk a b = true then some (.int (a * b)) else none
  | [.lst true l, .int k] => if (repOk l.length k && D.fzL l) = true then some (.lst true (List.replicate k.toNat l).flatten) else none
  | _ => none
def fMod : List D → Option D
  | [.int a, .int b] => if 0 < b then some (.int (a % b)) else none
  | _ => none
def fDiv : List D → Option D
  | [.int a, .int b] => if divOk b = true then some (.int (a / b)) else none
  | _ => none
def fPow : List D → Option D
  | [.int a, .int b] => if powOk a b = true then some (.int (a ^ b.toNat)) else none
  | _ => none
def fShl : List D → Option D
  | [.int a, .int b] => if powOk a b = true then some (.int (a * 2 ^ b.toNat)) else none
  | _ => none
def fShr : List D → Option D
  | [.int a, .int b] => if 0 ≤ b then some (.int (a / 2 ^ b.toNat)) else none
  | _ => none
def fBand : List D → Option D
  | [.int a, .int b] => some (.int (Builtin.bitAnd a b))
  | _ => none
def fNeg : List D → Option D
  | [.int a] => some (.int (-a))
  | _ => none
def fCmp (p : Int → Int → Bool) : List D → Option D
  | [.int a, .int b] => some (.bl (p a b))
  | _ => none
def D.isNon : D → Bool
  | .non => true
  | _ => false
def fIsNon (n : Bool) : List D → Option D
  | [d] => some (.bl (d.isNon != n))
  | _ => none
def fIsB (n : Bool) : List D → Option D
  | [.bl a, .bl b] => some (.bl ((a == b) != n))
  | _ => none
-- equality
mutual
def D.pl : Nat → D → Bool
  | _, .non => true
  | _, .bl _ => true
  | _, .int _ => true
  | _, .str x => x.cps.all (· < 0x110000)
  | n + 1, .lst _ l => D.plL n l
  | n + 1, .tup l => D.plL n l
  | _, _ => false
def D.plL : Nat → List D → Bool
  | _, [] => true
  | n, d :: r => D.pl n d && D.plL n r
end
mutual
def D.eqb : D → D → Bool
  | .non, .non => true
  | .bl a, .bl b => a == b
  | .bl a, .int j => (if a then 1 else 0) == j
  | .int i, .bl b => i == (if b then 1 else 0)
  | .int i, .int j => i == j
  | .str x, .str y => x == y
  | .lst _ a, .lst _ b => D.eqbL a b
  | .tup a, .tup b => D.eqbL a b
  | _, _ => false
def D.eqbL : List D → List D → Bool
  | [], [] => true
  | a :: r, b :: s => D.eqb a b && D.eqbL r s
  | _, _ => false
end
/-- plain, not deep -/
def D.scal2 : D → D → Bool
  | .non, .non | .non, .int _ | .int _, .non | .non, .bl _ | .bl _, .non | .non, .str _ | .str _, .non => true
  | .int _, .int _ | .bl _, .bl _ | .str _, .str _ => true
  | .int _, .str _ | .str _, .int _ | .bl _, .str _ | .str _, .bl _ => true
  | _, _ => false
def D.flat : D → Bool
  | .non | .bl _ | .int _ | .str _ => true
  | _ => false
-- equal, dicts among them (it is told of those that are equal only)
mutual
def D.eqd : Nat → D → D → Bool
  | n + 1, .lst _ a, .lst _ b => D.eqdL n a b
  | n + 1, .tup a, .tup b => D.eqdL n a b
  | n + 1, .dct _ ks a, .dct _ ks' b => ks.length == ks'.length && ks.length == a.length && ks'.length == b.length && D.eqdK n ks a ks' b
  | _, a, b => a.flat && b.flat && D.eqb a b
def D.eqdL : Nat → List D → List D → Bool
  | n, a :: r, b :: s => D.eqd n a b && D.eqdL n r s
  | _, [], [] => true
  | _, _, _ => false
def D.eqdK : Nat → List Key → List D → List Key → List D → Bool
  | n, k :: ks, v :: r, ks', b => (match (ks'.findIdx? fun j => decide (j = k)).bind fun i => b[i]? with
    | some y => D.eqd n v y
    | none => false) && D.eqdK n ks r ks' b
  | _, [], [], _, _ => true
  | _, _, _, _, _ => false
end
/-- two dicts of the same flat values -/
def D.eqf : D → D → Bool
  | .dct _ ks a, .dct _ ks' b => D.eqd 1 (.dct true ks a) (.dct true ks' b)
  | _, _ => false
def fEq (n : Bool) : List D → Option D
  | [a, b] => if D.scal2 a b = true then some (.bl (D.eqb a b != n)) else if (D.pl 9 a && D.pl 9 b) = true then some (.bl (D.eqb a b != n)) else if (!n && D.eqd 20 a b) = true then some (.bl true) else if (n && D.eqf a b) = true then some (.bl false) else none
  | _ => none
def fIn (n : Bool) : List D → Option D
  | [.str a, .str z] => match a.cps.toList with
    | [c] => some (.bl (decide (c ∈ z.cps.toList) != n))
    | _ => none
  | [x, .lst _ l] => if (x.flat && l.all D.flat) = true then some (.bl ((l.any fun y => D.eqb y x) != n))
    else if (D.pl 8 x && D.plL 8 l) = true then some (.bl ((l.any fun y => D.eqb y x) != n)) else none
  | [x, .tup l] => if (x.flat && l.all D.flat) = true then some (.bl ((l.any fun y => D.eqb y x) != n)) else none
  | [k, .dct _ ks _] => (keyOf k).map fun k => .bl ((ks.any fun j => decide (j = k)) != n)
  | _ => none
def fIx : List D → Option D
  | [.lst _ l, .int i] => (ixN l.length i).bind fun k => l[k]?
  | [.tup l, .int i] => (ixN l.length i).bind fun k => l[k]?
  | [.str z, .int i] => if z.length < lim then ((ixN z.cps.toList.length i).bind fun k => z.cps.toList[k]?).map fun c => .str ⟨#[c]⟩ else none
  | [.dct _ ks l, k] => (keyOf k).bind fun k => (ks.findIdx? fun j => decide (j = k)).bind fun i => l[i]?
  | _ => none
def cutL {α : Type} (l : List α) (lo hi : Option Int) : List α := (l.drop (HT.sIx l.length 0 lo)).take (HT.sIx l.length l.length hi - HT.sIx l.length 0 lo)
def fSlx (lo hi : Option Int) : D → Option D
  | .lst _ l => some (.lst true (cutL l lo hi))
  | .tup l => some (.tup (cutL l lo hi))
  | .str z => if z.length < lim then some (.str (cutS z lo hi)) else none
  | _ => none
def fSl : Bool → Bool → List D → Option D
  | true, true, [d, .int i, .int j] => fSlx (some i) (some j) d
  | true, false, [d, .int i] => fSlx (some i) none d
  | false, true, [d, .int j] => fSlx none (some j) d
  | false, false, [d] => fSlx none none d
  | _, _, _ => none
def fFld (f : Str) : List D → Option D
  | [.ins _ c fs l] => if isX c = true then none else (fs.findIdx? fun g => decide (g = f)).bind fun k => l[k]?
  | [.exn c fs l] => if isX c = true then (fs.findIdx? fun g => decide (g = f)).bind fun k => l[k]? else none
  | _ => none
def fLen : List D → Option D
  | [.lst _ l] => some (.int l.length)
  | [.tup l] => some (.int l.length)
  | [.str z] => if z.length < lim then some (.int z.length) else none
  | [.dct true ks _] => some (.int ks.length)
  | [.dct false ks _] => some (.int ks.length)
  | _ => none
def D.ints : List D → Option (List Int)
  | [] => some []
  | .int i :: r => (D.ints r).map (i :: ·)
  | _ => none
def D.bls : List D → Option (List Bool)
  | [] => some []
  | .bl i :: r => (D.bls r).map (i :: ·)
  | _ => none
def D.strs : List D → Option (List Str)
  | [] => some []
  | .str i :: r => (D.strs r).map (i :: ·)
  | _ => none
def fSum : List D → Option D
  | [.lst _ l] => (D.ints l).map fun ns => .int ns.sum
  | _ => none
def fAll : List D → Option D
  | [.lst _ l] => (D.bls l).map fun ns => .bl (ns.all id)
  | _ => none
def fAny : List D → Option D
  | [.lst _ l] => (D.bls l).map fun ns => .bl (ns.any id)
  | _ => none
def fAbs : List D → Option D
  | [.int i] => some (.int (if i < 0 then -i else i))
  | _ => none
def fMax2 : List D → Option D
  | [.int i, .int j] => some (.int (if j > i then j else i))
  | _ => none
def fMin2 : List D → Option D
  | [.int i, .int j] => some (.int (if j < i then j else i))
  | _ => none
def maxI : List Int → Int
  | [] => 0
  | [a] => a
  | a :: r => if maxI r > a then maxI r else a
def minI : List Int → Int
  | [] => 0
  | [a] => a
  | a :: r => if minI r < a then minI r else a
def fMaxL : List D → Option D
  | [.lst _ l] => match D.ints l with
    | some (a :: r) => some (.int (maxI (a :: r)))
    | _ => none
  | _ => none
def fMinL : List D → Option D
  | [.lst _ l] => match D.ints l with
    | some (a :: r) => some (.int (minI (a :: r)))
    | _ => none
  | _ => none
def insI (a : Int) : List Int → List Int
  | [] => [a]
  | b :: r => if a ≤ b then a :: b :: r else b :: insI a r
def sortI : List Int → List Int
  | [] => []
  | a :: r => insI a (sortI r)
/-- texts as keys -/
def strKs : List Key → Option (List Str)
  | [] => some []
  | .inr s :: r => (strKs r).map (s :: ·)
  | _ => none
/-- whole numbers as keys -/
def intKs : List Key → Option (List Int)
  | [] => some []
  | .inl s :: r => (intKs r).map (s :: ·)
  | _ => none
def fSorted : List D → Option D
  | [.lst _ l] => match D.ints l with
    | some ns => some (.lst true ((sortI ns).map D.int))
    | none => (D.strs l).bind fun ss => if ss.length < 64 then some (.lst true ((sortStr ss).map D.str)) else none
  | [.dct _ ks l] => match strKs ks with
    | some ss => if ss.length < 64 then some (.lst true ((sortStr ss).map D.str)) else none
    | none => (intKs ks).bind fun ns => if ns.length < 64 then some (.lst true ((sortI ns).map D.int)) else none
  | _ => none
def fInt : List D → Option D
  | [.int i] => some (.int i)
  | [.bl k] => some (.int (if k then 1 else 0))
  | [.str a] => match PySem.intText? a with
    | some n => if a.length ≤ 640 then some (.int n) else none
    | none => none
  | _ => none
def fStr : List D → Option D
  | [.int i] => if i.natAbs.log2 < 1920 then some (.str (toString i)) else none
  | _ => none
def keyD : Key → D
  | .inl i => .int i
  | .inr s => .str s
def fList : List D → Option D
  | [.lst _ l] => some (.lst true l)
  | [.tup l] => some (.lst true l)
  | [.dct _ ks _] => some (.lst true (ks.map keyD))
  | _ => none
/-- pairs of keys and values -/
def pairsD : List D → Option (List Key × List D)
  | [] => some ([], [])
  | .tup [k, v] :: r => (keyOf k).bind fun k => (pairsD r).map fun q => (k :: q.1, v :: q.2)
  | _ => none
def fDict : List D → Option D
  | [.dct _ ks l] => some (.dct true ks l)
  | [.lst _ l] => (pairsD l).bind fun q => if q.1.Nodup ∧ D.fzL l = true then some (.dct true q.1 q.2) else none
  | _ => none
def D.tyName : D → Option String
  | .non => some "NoneType" | .bl _ => some "bool" | .int _ => some "int" | .str _ => some "str" | .tup _ => some "tuple" | .lst _ _ => some "list" | .dct _ _ _ => some "dict"
  | _ => none
/-- of the types asked for -/
def tySub (a b : String) : Option Bool :=
  if a = b then some true else if a = "bool" ∧ b = "int" then some true
  else if (a = "bool" ∨ a = "int" ∨ a = "str" ∨ a = "tuple" ∨ a = "list" ∨ a = "dict" ∨ a = "NoneType") ∧ (b = "bool" ∨ b = "int" ∨ b = "str" ∨ b = "tuple" ∨ b = "list" ∨ b = "dict") then some false else none
def fIsT (t : String) : List D → Option D
  | [.exn b _ _] => if isX b = true ∧ t = "ValueError" then some (.bl true) else none
  | [d] => d.tyName.bind fun a => (tySub a t).map .bl
  | _ => none
def fIsC (sub : Str → Str → Option Bool) (c : Str) : List D → Option D
  | [.ins _ b _ _] => if isX b = true then none else (sub b c).map .bl
  | [.exn b _ _] => if isX b = true then (sub b c).map .bl else none
  | _ => none
def fJoin : List D → Option D
  | [.str a, .lst _ l] => (D.strs l).bind fun ys => if (ys.map (·.length)).sum + ys.length * a.length < lim then some (.str (Txt.join a ys)) else none
  | _ => none
def fGet1 : List D → Option D
  | [.dct _ ks l, k] => (keyOf k).bind fun k => match ks.findIdx? fun j => decide (j = k) with
    | some i => l[i]?
    | none => some .non
  | _ => none
def fGet2 : List D → Option D
  | [.dct _ ks l, k, z] => (keyOf k).bind fun k => match ks.findIdx? fun j => decide (j = k) with
    | some i => l[i]?
    | none => some z
  | _ => none
def fIndex : List D → Option D
  | [.lst _ l, x] => if (x.flat && l.all D.flat) = true then (l.findIdx? fun y => D.eqb y x).map fun j => .int (j : Nat) else none
  | _ => none
def fDnew : List D → Option D
  | [] => some (.dct true [] [])
  | _ => none
def fRev : List D → Option D
  | [.lst _ l] => if D.fzL l = true then some (.lst true l.reverse) else none
  | _ => none
def fLenset : List D → Option D
  | [.lst _ l] => (D.ints l).bind fun ns => if ns.length < 63 then some (.int (setLen ns : Nat)) else none
  | _ => none
def rgD (a b : Int) : List D := (List.range (b - a).toNat).map fun (i : Nat) => D.int (a + i)
def rgLOk (a b : Int) : Bool := decide (0 ≤ a) && decide (a ≤ 16777216) && decide (0 ≤ b) && decide (b ≤ 16777216)
def fRngL1 : List D → Option D
  | [.int b] => if rgLOk 0 b = true then some (.lst true (rgD 0 b)) else none
  | _ => none
def fRngL2 : List D → Option D
  | [.int a, .int b] => if rgLOk a b = true then some (.lst true (rgD a b)) else none
  | _ => none
/-- keys and values in a row -/
def kvsD : List D → Option (List Key × List D)
  | [] => some ([], [])
  | [_] => none
  | k :: v :: r => (keyOf k).bind fun k => (kvsD r).map fun q => (k :: q.1, v :: q.2)
def fDkv (ds : List D) : Option D := (kvsD ds).bind fun q => if q.1.Nodup ∧ 0 < q.1.length ∧ q.1.length ≤ 15 then some (.dct true q.1 q.2) else none
def fCount : List D → Option D
  | [.lst _ l, .int k] => (D.ints l).map fun ns => .int (ns.count k : Nat)
  | _ => none
def fMaxD : List D → Option D
  | [.lst _ l, d] => match D.ints l with
    | some [] => if d.flat = true then some d else none
    | some (a :: r) => some (.int (maxI (a :: r)))
    | none => none
  | _ => none
def fMinD : List D → Option D
  | [.lst _ l, d] => match D.ints l with
    | some [] => if d.flat = true then some d else none
    | some (a :: r) => some (.int (minI (a :: r)))
    | none => none
  | _ => none
def fSplit : List D → Option D
  | [.str a, .str b] => if (b.length == 0) = false ∧ a.length + 2 < lim then some (.lst true ((Txt.split a b).map D.str)) else none
  | _ => none
def fPartition : List D → Option D
  | [.str a, .str b] => if (b.length == 0) = false ∧ a.length < lim then some (.tup [.str (Txt.partition a b).1, .str (Txt.partition a b).2.1, .str (Txt.partition a b).2.2]) else none
  | _ => none
def fStartsw : List D → Option D
  | [.str a, .str b] => some (.bl (Txt.startswith a b))
  | _ => none
def fEndsw : List D → Option D
  | [.str a, .str b] => some (.bl (Txt.endswith a b))
  | _ => none
def fLjust : List D → Option D
  | [.str a, .int i] => if PadOk i = true then some (.str (Txt.ljust a i)) else none
  | _ => none
def fSlr : List D → Option D
  | [.lst _ l] => if D.fzL l = true then some (.lst true l.reverse) else none
  | _ => none
/-- one of several classes -/
def subAny (sub : Str → Str → Option Bool) (b : Str) : List Str → Option Bool
  | [] => some false
  | c :: r => match sub b c, subAny sub b r with
    | some x, some y => some (x || y)
    | _, _ => none
def fIsCs (sub : Str → Str → Option Bool) (cs : List Str) : List D → Option D
  | [.exn b _ _] => if isX b = true then (subAny sub b cs).map .bl else none
  | _ => none
/-- on data: what each operation answers -/
def opF (sub : Str → Str → Option Bool) : POp → List D → Option D
  | .add => fAdd | .sub => fSub | .mul => fMul | .mod => fMod | .fdiv => fDiv | .pow => fPow | .shl => fShl | .shr => fShr | .band => fBand | .neg => fNeg
  | .eq => fEq false | .ne => fEq true
  | .lt => fCmp fun i j => decide (i < j) | .le => fCmp fun i j => decide (i ≤ j) | .gt => fCmp fun i j => decide (j < i) | .ge => fCmp fun i j => decide (j ≤ i)
  | .isNon => fIsNon false | .notNon => fIsNon true | .isB => fIsB false | .notB => fIsB true
  | .in_ => fIn false | .notin => fIn true | .ix => fIx | .sl a b => fSl a b | .fld f => fFld f
  | .len => fLen | .sum => fSum | .all => fAll | .any => fAny | .abs => fAbs | .max2 => fMax2 | .min2 => fMin2 | .maxL => fMaxL | .minL => fMinL
  | .sorted => fSorted | .int_ => fInt | .str_ => fStr | .list_ => fList | .dict_ => fDict
  | .isT t => fIsT t
  | .isC [c] => fIsC sub c
  | .isC cs => fIsCs sub cs
  | .dkv => fDkv | .count => fCount | .maxD => fMaxD | .minD => fMinD | .split => fSplit | .partition => fPartition | .startsw => fStartsw | .endsw => fEndsw | .ljust => fLjust | .slr => fSlr
  | .join => fJoin | .get1 => fGet1 | .get2 => fGet2 | .index => fIndex | .dnew => fDnew | .rev => fRev | .lenset => fLenset | .rngL1 => fRngL1 | .rngL2 => fRngL2
  | _ => fun _ => none
end LD
namespace LD
open PySem PySem.Spec PyProof.Rows L2
variable {K : PySem.W.Frag} {ct : Str → Option Addr}

/-! ### the readings of operations -/
abbrev R2V := V → V → Hp → VK → Prop
def rAddQ (K : PySem.W.Frag) : R2V := fun x y H Q => rI0 (fun i j => .int (i + j)) x y H Q ∨ (∃ i j, x = .str i ∧ y = .str j ∧ i.length + j.length ≤ sizeLine ∧ Q (.str (i ++ j)) H) ∨ rCatS K x y H Q ∨ rCatA K x y H Q
def rMulQ (K : PySem.W.Frag) : R2V := fun x y H Q => rI CMul (fun i j => .int (i * j)) x y H Q ∨ rRep x y H Q
/-- equal, dicts among them -/
def EVX (K : PySem.W.Frag) (H : Hp) : Nat → V → V → Prop
  | 0 => fun x y => flatV x = true ∧ flatV y = true ∧ eqV x y = true
  | n + 1 => fun x y => (flatV x = true ∧ flatV y = true ∧ eqV x y = true) ∨
    (∃ a b xs ys, x = .ref a ∧ y = .ref b ∧ SqL K H a xs ∧ SqL K H b ys ∧ Paired (EVX K H n) xs ys) ∨
    (∃ a b xs ys, x = .ref a ∧ y = .ref b ∧ SqT K H a xs ∧ SqT K H b ys ∧ Paired (EVX K H n) xs ys) ∨
    ∃ a b ks ls, x = .ref a ∧ y = .ref b ∧ Rd H a (.dK ks) ∧ Rd H b (.dK ls) ∧ ks.length = ls.length ∧ ∀ p ∈ ks, ∃ u, valV ls p.1 = some u ∧ EVX K H n p.2 u
def rEqT (K : PySem.W.Frag) : R2V := fun x y H Q => EVX K H 20 x y ∧ ¬ flatV x = true ∧ Q (.bl true) H
def rNeT (K : PySem.W.Frag) : R2V := fun x y H Q => (∃ a b ks ls, x = .ref a ∧ y = .ref b ∧ Rd H a (.dK ks) ∧ Rd H b (.dK ls) ∧ ks.length = ls.length ∧ ∀ p ∈ ks, ∃ u, valV ls p.1 = some u ∧ EVX K H 0 p.2 u) ∧ Q (.bl false) H
def rEqQ (K : PySem.W.Frag) : R2V := fun x y H Q => rEq x y H Q ∨ rEqD K x y H Q ∨ rEqT K x y H Q
def rNeQ (K : PySem.W.Frag) : R2V := fun x y H Q => rNe x y H Q ∨ rNeD K x y H Q ∨ rNeT K x y H Q
def rIsNonQ : R2V := fun x y H Q => y = .non ∧ Q (.bl (decide (x = .non))) H
def rNotNonQ : R2V := fun x y H Q => y = .non ∧ Q (.bl (!decide (x = .non))) H
def rIsBQ : R2V := fun x y H Q => ∃ a b : Bool, x = .bl a ∧ y = .bl b ∧ Q (.bl (decide (a = b))) H
def rNotBQ : R2V := fun x y H Q => ∃ a b : Bool, x = .bl a ∧ y = .bl b ∧ Q (.bl (!decide (a = b))) H
def rInQ (K : PySem.W.Frag) : R2V := fun x y H Q => (∃ (c : Nat) (z : Str), x = .str ⟨#[c]⟩ ∧ y = .str z ∧ Q (.bl (decide (c ∈ z.cps.toList))) H) ∨ rIn K false x y H Q ∨ rInD K x y H Q ∨ ∃ a o, y = .ref a ∧ DGet H a x o ∧ Q (.bl o.isSome) H
def rNotInQ (K : PySem.W.Frag) : R2V := fun x y H Q => (∃ (c : Nat) (z : Str), x = .str ⟨#[c]⟩ ∧ y = .str z ∧ Q (.bl (!decide (c ∈ z.cps.toList))) H) ∨ rIn K true x y H Q ∨ rNotInD K x y H Q ∨ ∃ a o, y = .ref a ∧ DGet H a x o ∧ Q (.bl (!o.isSome)) H
def rSlQ (K : PySem.W.Frag) : V → Option Int → Option Int → Hp → VK → Prop := fun x lo hi H Q => rSlL K x lo hi H Q ∨ rSlS x lo hi H Q ∨ rSlA K x lo hi H Q
def r2 (r : R2V) : List V → Hp → VK → Prop := fun vs H Q => ∃ x y, vs = [x, y] ∧ r x y H Q
def r1q (r : V → Hp → VK → Prop) : List V → Hp → VK → Prop := fun vs H Q => ∃ x, vs = [x] ∧ r x H Q
def rSlO (K : PySem.W.Frag) : Bool → Bool → List V → Hp → VK → Prop
  | true, true => fun vs H Q => ∃ x i j, vs = [x, .int i, .int j] ∧ rSlQ K x (some i) (some j) H Q
  | true, false => fun vs H Q => ∃ x i, vs = [x, .int i] ∧ rSlQ K x (some i) none H Q
  | false, true => fun vs H Q => ∃ x j, vs = [x, .int j] ∧ rSlQ K x none (some j) H Q
  | false, false => fun vs H Q => ∃ x, vs = [x] ∧ rSlQ K x none none H Q
def rLenQ (K : PySem.W.Frag) : List V → Hp → VK → Prop := fun xs H Q => (∃ x n, xs = [x] ∧ LenV K x H n ∧ Q (.int n) H) ∨ ∃ a kvs, xs = [V.ref a] ∧ Rd H a (.dK kvs) ∧ Q (.int kvs.length) H
def rIntQ : List V → Hp → VK → Prop := fun xs H Q => ((∃ i, xs = [.int i] ∧ Q (.int i) H) ∨ ∃ k, xs = [.bl k] ∧ Q (.int (if k then 1 else 0)) H) ∨ ∃ a n, xs = [.str a] ∧ PySem.intText? a = some n ∧ a.length ≤ 640 ∧ Q (.int n) H
def rListQ (K : PySem.W.Frag) : List V → Hp → VK → Prop := fun xs H Q => (∃ p ys, xs = [.ref p] ∧ (SqL K H p ys ∨ SqT K H p ys) ∧ ∀ l, H l = none → Q (.ref l) (upd H l (.lst ys))) ∨
  ∃ (a : Addr) (kvs : List (Key × V)), xs = [.ref a] ∧ Rd H a (.dK kvs) ∧ ∀ p, H p = none → Q (.ref p) (upd H p (.lst (kvs.map fun kv => kV kv.1)))
def rJoinQ (K : PySem.W.Frag) : List V → Hp → VK → Prop := fun vs H Q => ∃ a p, ∃ ys : List Str, vs = [.str a, .ref p] ∧ (SqL K H p (ys.map V.str) ∨ SqT K H p (ys.map V.str)) ∧ (ys.map (·.length)).sum + ys.length * a.length ≤ 16777216 ∧ Q (.str (Txt.join a ys)) H
/-- a field, of an instance or of a caught exception -/
def rFldX (ct : Str → Option Addr) (f : Str) (x : V) (H : Hp) (Q : VK) : Prop := ∃ a C dd fs v, x = .ref a ∧ Rd H a (XO C (some dd) a) ∧ Rd H dd (.xd fs) ∧ (∃ c, ct c = some C ∧ isX c = true) ∧ fs.lookup f = some v ∧ Q v H
def rFldE (ct : Str → Option Addr) (f : Str) (x : V) (H : Hp) (Q : VK) : Prop := rFldQ ct f x H Q ∨ rFldX ct f x H Q
def rIsX (K : PySem.W.Frag) (ct : Str → Option Addr) : List V → Hp → VK → Prop := fun vs H Q => ∃ a B c u d k b, vs = [.ref a, c] ∧ ClsV c u ∧ Rd H a (XO B d a) ∧ (∃ kvs, XD H d kvs) ∧ ct b = some B ∧ isX b = true ∧ PySem.W.kitOne K (.ref B) u = some k ∧ Q (.bl k) H
def rIs2 (K : PySem.W.Frag) (ct : Str → Option Addr) : List V → Hp → VK → Prop := fun vs H Q => rIsi K vs H Q ∨ rIsX K ct vs H Q
def rIsTQ (K : PySem.W.Frag) (ct : Str → Option Addr) (t : String) : List V → Hp → VK → Prop := fun vs H Q => rIs2 K ct (vs ++ [.ty t]) H Q
/-- of one of several classes, a caught exception -/
def rIsXs (K : PySem.W.Frag) (ct : Str → Option Addr) (cs : List Str) : List V → Hp → VK → Prop := fun vs H Q => ∃ a B d k b, vs = [.ref a] ∧ Rd H a (XO B d a) ∧ (∃ kvs, XD H d kvs) ∧ ct b = some B ∧ isX b = true ∧ PySem.W.kitAny K (.ref B) (cs.map fun c => Value.ref ((ct c).getD 0)) = some k ∧ ∀ p, H p = none → Q (.bl k) (upd H p (.tup (cs.map fun c => V.ref ((ct c).getD 0))))
def flatKV : List (Key × V) → List V
  | [] => []
  | (k, v) :: r => kV k :: v :: flatKV r
def rDkv : List V → Hp → VK → Prop := fun vs H Q => ∃ kvs : List (Key × V), vs = flatKV kvs ∧ (kvs.map (·.1)).Nodup ∧ 0 < kvs.length ∧ kvs.length ≤ 15 ∧ ∀ p, H p = none → Q (.ref p) (upd H p (.dK kvs))
def rMaxD (K : PySem.W.Frag) : List V → Hp → VK → Prop := fun vs H Q => ∃ (a : Addr) (ns : List Int) (d : V), vs = [.ref a, d] ∧ SqL K H a (ns.map V.int) ∧ (ns = [] → Q d H) ∧ ∀ m, m ∈ ns → (∀ y, y ∈ ns → y ≤ m) → Q (.int m) H
def rMinD (K : PySem.W.Frag) : List V → Hp → VK → Prop := fun vs H Q => ∃ (a : Addr) (ns : List Int) (d : V), vs = [.ref a, d] ∧ SqL K H a (ns.map V.int) ∧ (ns = [] → Q d H) ∧ ∀ m, m ∈ ns → (∀ y, y ∈ ns → m ≤ y) → Q (.int m) H
def rHd (r : V → List V → Hp → VK → Prop) : List V → Hp → VK → Prop := fun vs H Q => ∃ x xs, vs = x :: xs ∧ r x xs H Q
def rSplitQ : V → List V → Hp → VK → Prop := fun x xs H Q => ∃ a b, x = .str a ∧ xs = [.str b] ∧ (b.length == 0) = false ∧ a.length + 2 ≤ sizeLine ∧ rNewStrs (Txt.split a b) H Q
def rPartQ : V → List V → Hp → VK → Prop := fun x xs H Q => ∃ a b, x = .str a ∧ xs = [.str b] ∧ (b.length == 0) = false ∧ a.length ≤ sizeLine ∧ ∀ p, H p = none → Q (.ref p) (upd H p (.tup [.str (Txt.partition a b).1, .str (Txt.partition a b).2.1, .str (Txt.partition a b).2.2]))
def rStartQ : V → List V → Hp → VK → Prop := fun x xs H Q => ∃ a b, x = .str a ∧ xs = [.str b] ∧ Q (.bl (Txt.startswith a b)) H
def rEndQ : V → List V → Hp → VK → Prop := fun x xs H Q => ∃ a b, x = .str a ∧ xs = [.str b] ∧ Q (.bl (Txt.endswith a b)) H
def rLjustQ : V → List V → Hp → VK → Prop := fun x xs H Q => ∃ (a : Str) (i : Int), x = .str a ∧ xs = [.int i] ∧ PadOk i = true ∧ Q (.str (Txt.ljust a i)) H
def rCountQ (K : PySem.W.Frag) : V → List V → Hp → VK → Prop := fun x xs H Q => ∃ (p : Addr) (ns : List Int) (k : Int), x = .ref p ∧ xs = [.int k] ∧ SqL K H p (ns.map V.int) ∧ Q (.int (ns.count k : Nat)) H
def rIsCQ (K : PySem.W.Frag) (ct : Str → Option Addr) (c : Str) : List V → Hp → VK → Prop := fun vs H Q => rIs2 K ct (vs ++ [.ref ((ct c).getD 0)]) H Q
def rGet1Q : List V → Hp → VK → Prop := fun vs H Q => ∃ a y o, vs = [.ref a, y] ∧ IsD H a ∧ DGet H a y o ∧ Q (o.getD .non) H
def rGet2Q : List V → Hp → VK → Prop := fun vs H Q => ∃ a y z o, vs = [.ref a, y, z] ∧ IsD H a ∧ DGet H a y o ∧ Q (o.getD z) H
def rIndexQ (K : PySem.W.Frag) : List V → Hp → VK → Prop := fun vs H Q => ∃ x y, vs = [x, y] ∧ rIndex K x [y] H Q
def rDnewQ : List V → Hp → VK → Prop := fun vs H Q => vs = [] ∧ ∀ p, H p = none → Q (.ref p) (upd H p (.dK []))
def rSortedQ (K : PySem.W.Frag) : List V → Hp → VK → Prop := fun xs H Q => rSortedI K xs H Q ∨ rSortedS K xs H Q ∨ ∃ (a : Addr) (kvs : List (Key × V)) (ks : List Str), xs = [.ref a] ∧ Rd H a (.dK kvs) ∧ kvs.map (·.1) = ks.map Sum.inr ∧ ks.length < 64 ∧
  ∀ ys p, ys.Perm ks → PyProof.Rows.sortedS ys = true → H p = none → Q (.ref p) (upd H p (.lst (ys.map V.str)))
def rSortedDI : List V → Hp → VK → Prop := fun xs H Q => ∃ (a : Addr) (kvs : List (Key × V)) (ks : List Int), xs = [.ref a] ∧ Rd H a (.dK kvs) ∧ kvs.map (·.1) = ks.map Sum.inl ∧ ks.length < 64 ∧
  ∀ (ys : List Int) (p : Addr), ys.Perm ks → ys.Pairwise (· ≤ ·) → H p = none → Q (.ref p) (upd H p (.lst (ys.map V.int)))
def rSortedZ (K : PySem.W.Frag) : List V → Hp → VK → Prop := fun xs H Q => rSortedQ K xs H Q ∨ rSortedDI xs H Q
def rDictQ (K : PySem.W.Frag) : List V → Hp → VK → Prop := fun xs H Q => (∃ (a : Addr) (kvs : List (Key × V)), xs = [.ref a] ∧ Rd H a (.dK kvs) ∧ ∀ p, H p = none → Q (.ref p) (upd H p (.dK kvs))) ∨
  ∃ (a : Addr) (ps : List Addr) (kvs : List (Key × V)), xs = [.ref a] ∧ SqL K H a (ps.map V.ref) ∧ Paired (fun p kv => SqT K H p [kV kv.1, kv.2]) ps kvs ∧ ∀ p, H p = none → Q (.ref p) (upd H p (.dK (mergeK [] kvs)))
def opR (K : PySem.W.Frag) (ct : Str → Option Addr) : POp → List V → Hp → VK → Prop
  | .add => r2 (rAddQ K) | .sub => r2 (rI0 fun i j => .int (i - j)) | .mul => r2 (rMulQ K) | .mod => r2 (rI (fun _ j => 0 < j) fun i j => .int (i % j)) | .fdiv => r2 (rI CDivW fun i j => .int (i / j))
  | .pow => r2 (rI CPow fun i j => .int (i ^ j.toNat)) | .shl => r2 (rI CPow fun i j => .int (i * 2 ^ j.toNat)) | .shr => r2 (rI (fun _ j => 0 ≤ j) fun i j => .int (i / 2 ^ j.toNat)) | .band => r2 (rI0 fun i j => .int (Builtin.bitAnd i j))
  | .neg => r1q (rU fun i => .int (-i))
  | .eq => r2 (rEqQ K) | .ne => r2 (rNeQ K)
  | .lt => r2 (rI0 fun i j => .bl (decide (i < j))) | .le => r2 (rI0 fun i j => .bl (decide (i ≤ j))) | .gt => r2 (rI0 fun i j => .bl (decide (j < i))) | .ge => r2 (rI0 fun i j => .bl (decide (j ≤ i)))
  | .isNon => fun vs H Q => ∃ x, vs = [x] ∧ Q (.bl (decide (x = .non))) H
  | .notNon => fun vs H Q => ∃ x, vs = [x] ∧ Q (.bl (!decide (x = .non))) H
  | .isB => r2 rIsBQ | .notB => r2 rNotBQ
  | .in_ => r2 (rInQ K) | .notin => r2 (rNotInQ K) | .ix => r2 (rIxQ K) | .sl a b => rSlO K a b | .fld f => r1q (rFldE ct f)
  | .len => rLenQ K | .sum => rSum K | .all => rAll K | .any => rAny K
  | .abs => fun xs H Q => ∃ i, xs = [.int i] ∧ Q (.int (if i < 0 then -i else i)) H
  | .max2 => fun xs H Q => ∃ i j, xs = [.int i, .int j] ∧ Q (.int (if j > i then j else i)) H
  | .min2 => fun xs H Q => ∃ i j, xs = [.int i, .int j] ∧ Q (.int (if j < i then j else i)) H
  | .maxL => rMax K | .minL => rMin K | .sorted => rSortedZ K
  | .int_ => rIntQ | .str_ => fun xs H Q => ∃ i, xs = [.int i] ∧ i.natAbs.log2 < 1920 ∧ Q (.str (toString i)) H
  | .list_ => rListQ K | .dict_ => rDictQ K
  | .isT t => rIsTQ K ct t | .isC [c] => rIsCQ K ct c
  | .isC cs => rIsXs K ct cs
  | .dkv => rDkv | .maxD => rMaxD K | .minD => rMinD K | .split => rHd rSplitQ | .partition => rHd rPartQ | .startsw => rHd rStartQ | .endsw => rHd rEndQ | .ljust => rHd rLjustQ | .count => rHd (rCountQ K)
  | .slr => r1q (rRev K)
  | .join => rJoinQ K | .get1 => rGet1Q | .get2 => rGet2Q | .index => rIndexQ K | .dnew => rDnewQ
  | .rev => r1q (rRev K) | .lenset => r1q (rLenSetG K)
  | .rngL1 => fun vs H Q => ∃ b : Int, vs = [.int b] ∧ rRngL 0 b H Q
  | .rngL2 => fun vs H Q => ∃ a b : Int, vs = [.int a, .int b] ∧ rRngL a b H Q
  | _ => fun _ _ _ => False
end LD
namespace LD
open PySem PySem.Spec PyProof.Rows L2
variable {K : PySem.W.Frag} {ct : Str → Option Addr} {G H : Hp} {ds : List D} {vs : List V} {fs : List Addr} {d : D} {Q : VK}

theorem lim_line' {n : Nat} (h : n < lim) : n ≤ sizeLine := Nat.le_of_lt (lim_line h)
/-- two ints -/
theorem two_int {a b : Int} (r : RepL K ct G H [.int a, .int b] vs fs) : vs = [.int a, .int b] := by
  obtain ⟨v, u, f, g, rfl, rfl, ⟨rfl, rfl⟩, ⟨rfl, rfl⟩⟩ := r.two
  rfl
theorem two_bl {a b : Bool} (r : RepL K ct G H [.bl a, .bl b] vs fs) : vs = [.bl a, .bl b] := by
  obtain ⟨v, u, f, g, rfl, rfl, ⟨rfl, rfl⟩, ⟨rfl, rfl⟩⟩ := r.two
  rfl
theorem two_str {a b : Str} (r : RepL K ct G H [.str a, .str b] vs fs) : vs = [.str a, .str b] := by
  obtain ⟨v, u, f, g, rfl, rfl, ⟨rfl, rfl⟩, ⟨rfl, rfl⟩⟩ := r.two
  rfl
theorem one_int {a : Int} (r : RepL K ct G H [.int a] vs fs) : vs = [.int a] := by
  obtain ⟨v, rfl, ⟨rfl, _⟩⟩ := r.one
  rfl
theorem ok_add (w : WS G H fs) (r : RepL K ct G H ds vs fs) (h : fAdd ds = some d) (q : Wants K ct G H fs d Q) : r2 (rAddQ K) vs H Q := by
  unfold fAdd at h
  split at h
  · cases h
    rw [two_int r]
    exact ⟨_, _, rfl, .inl ⟨_, _, rfl, rfl, q.int w⟩⟩
  · split at h
    · rename_i hl
      cases h
      rw [two_str r]
      exact ⟨_, _, rfl, .inr (.inl ⟨_, _, rfl, rfl, lim_line' hl, q.str w⟩)⟩
    · cases h
  · split at h
    · rename_i hl
      cases h
      obtain ⟨v, u, f, g, rfl, rfl, rv, ru⟩ := r.two
      obtain ⟨a, xs, f', rfl, e1, rl1, s1, n1⟩ := rv.lst_of w.le
      obtain ⟨b, ys, g', rfl, e2, rl2, s2, n2⟩ := ru.lst_of w.le
      have nd := List.nodup_append.mp w.nd
      refine ⟨_, _, rfl, .inr (.inr (.inl ⟨a, b, xs, ys, rfl, rfl, e1, e2, by rw [rl1.length, rl2.length]; exact lim_line' hl, ?_⟩))⟩
      refine Wants.newL (gs := f' ++ g') w (rl1.append rl2) (fun a m => ?_) (List.nodup_append.mpr ⟨n1 nd.1, n2 nd.2.1, fun a m b m' => nd.2.2 a (s1 a m) b (s2 b m')⟩) q
      rcases List.mem_append.mp m with z | z
      · exact List.mem_append_left _ (s1 a z)
      · exact List.mem_append_right _ (s2 a z)
    · cases h
  · split at h
    · rename_i hl
      cases h
      obtain ⟨v, u, f, g, rfl, rfl, rv, ru⟩ := r.two
      obtain ⟨a, xs, rfl, e1, rl1⟩ := rv.tup_of w.le
      obtain ⟨b, ys, rfl, e2, rl2⟩ := ru.tup_of w.le
      refine ⟨_, _, rfl, .inr (.inr (.inr ⟨a, b, xs, ys, rfl, rfl, e1, e2, by rw [rl1.length, rl2.length]; exact lim_line' hl, fun e => ?_, fun _ e => ?_, fun _ _ => ?_⟩))⟩
      · subst e
        have l := rl1.length
        have e0 := List.length_eq_zero_iff.mp l.symm
        subst e0
        obtain ⟨_, rfl⟩ := rl1
        simp only [List.nil_append] at q w
        exact Wants.sub w ru (fun a m => m) w.nd q
      · subst e
        have l := rl2.length
        have e0 := List.length_eq_zero_iff.mp l.symm
        subst e0
        obtain ⟨_, rfl⟩ := rl2
        simp only [List.append_nil] at q w
        exact Wants.sub w rv (fun a m => m) w.nd q
      · exact Wants.newT w (rl1.append rl2) (fun a m => m) w.nd q
    · cases h
  · cases h
theorem ok_sub (w : WS G H fs) (r : RepL K ct G H ds vs fs) (h : fSub ds = some d) (q : Wants K ct G H fs d Q) : r2 (rI0 fun i j => .int (i - j)) vs H Q := by
  unfold fSub at h
  split at h
  · cases h
    rw [two_int r]
    exact ⟨_, _, rfl, _, _, rfl, rfl, q.int w⟩
  · cases h
theorem mulOk_of {i j : Int} (h : mulOk i j = true) : CMul i j := by
  unfold mulOk at h
  rw [Bool.or_eq_true, decide_eq_true_eq, decide_eq_true_eq] at h
  rcases h with h | h
  · exact .inl (by omega)
  · exact .inr (by omega)
theorem RepL.flat_rep {l : List D} {xs : List V} (rl : RepL K ct G H l xs []) : ∀ k : Nat, RepL K ct G H (List.replicate k l).flatten (List.replicate k xs).flatten []
  | 0 => ⟨rfl, rfl⟩
  | k + 1 => by
    rw [List.replicate_succ, List.replicate_succ, List.flatten_cons, List.flatten_cons]
    exact rl.append (RepL.flat_rep rl k)
theorem ok_mul (w : WS G H fs) (r : RepL K ct G H ds vs fs) (h : fMul ds = some d) (q : Wants K ct G H fs d Q) : r2 (rMulQ K) vs H Q := by
  unfold fMul at h
  split at h
  · split at h
    · rename_i hm
      cases h
      rw [two_int r]
      exact ⟨_, _, rfl, .inl ⟨_, _, rfl, rfl, mulOk_of hm, q.int w⟩⟩
    · cases h
  · split at h
    · rename_i l k hm
      cases h
      rw [Bool.and_eq_true] at hm
      obtain ⟨hr, hz⟩ := hm
      unfold repOk at hr
      simp only [Bool.and_eq_true, decide_eq_true_eq] at hr
      obtain ⟨v, u, f, g, rfl, rfl, rv, ⟨rfl, rfl⟩⟩ := r.two
      obtain ⟨a, xs, f', rfl, rfl, e, rl⟩ := rv
      have e0 := rl.fz hz
      subst e0
      refine ⟨_, _, rfl, .inr ⟨a, k, xs, rfl, rfl, e, hr.1.1, hr.1.2, by rw [rl.length]; exact lim_line' hr.2, ?_⟩⟩
      exact Wants.newL (gs := []) w (RepL.flat_rep rl _) (fun a m => by cases m) List.nodup_nil q
    · cases h
  · cases h
theorem ok_mod (w : WS G H fs) (r : RepL K ct G H ds vs fs) (h : fMod ds = some d) (q : Wants K ct G H fs d Q) : r2 (rI (fun _ j => 0 < j) fun i j => .int (i % j)) vs H Q := by
  unfold fMod at h
  split at h
  · split at h
    · rename_i hm
      cases h
      rw [two_int r]
      exact ⟨_, _, rfl, _, _, rfl, rfl, hm, q.int w⟩
    · cases h
  · cases h
theorem ok_div (w : WS G H fs) (r : RepL K ct G H ds vs fs) (h : fDiv ds = some d) (q : Wants K ct G H fs d Q) : r2 (rI CDivW fun i j => .int (i / j)) vs H Q := by
  unfold fDiv at h
  split at h
  · split at h
    · rename_i hm
      cases h
      unfold divOk at hm
      simp only [Bool.and_eq_true, decide_eq_true_eq] at hm
      rw [two_int r]
      exact ⟨_, _, rfl, _, _, rfl, rfl, hm, q.int w⟩
    · cases h
  · cases h
theorem powOk_of {i j : Int} (h : powOk i j = true) : CPow i j := by
  unfold powOk at h
  simp only [Bool.and_eq_true, decide_eq_true_eq] at h
  exact ⟨h.1.1, h.1.2, h.2⟩
theorem ok_pow (w : WS G H fs) (r : RepL K ct G H ds vs fs) (h : fPow ds = some d) (q : Wants K ct G H fs d Q) : r2 (rI CPow fun i j => .int (i ^ j.toNat)) vs H Q := by
  unfold fPow at h
  split at h
  · split at h
    · rename_i hm
      cases h
      rw [two_int r]
      exact ⟨_, _, rfl, _, _, rfl, rfl, powOk_of hm, q.int w⟩
    · cases h
  · cases h
theorem ok_shl (w : WS G H fs) (r : RepL K ct G H ds vs fs) (h : fShl ds = some d) (q : Wants K ct G H fs d Q) : r2 (rI CPow fun i j => .int (i * 2 ^ j.toNat)) vs H Q := by
  unfold fShl at h
  split at h
  · split at h
    · rename_i hm
      cases h
      rw [two_int r]
      exact ⟨_, _, rfl, _, _, rfl, rfl, powOk_of hm, q.int w⟩
    · cases h
  · cases h
theorem ok_shr (w : WS G H fs) (r : RepL K ct G H ds vs fs) (h : fShr ds = some d) (q : Wants K ct G H fs d Q) : r2 (rI (fun _ j => 0 ≤ j) fun i j => .int (i / 2 ^ j.toNat)) vs H Q := by
  unfold fShr at h
  split at h
  · split at h
    · rename_i hm
      cases h
      rw [two_int r]
      exact ⟨_, _, rfl, _, _, rfl, rfl, hm, q.int w⟩
    · cases h
  · cases h
theorem ok_band (w : WS G H fs) (r : RepL K ct G H ds vs fs) (h : fBand ds = some d) (q : Wants K ct G H fs d Q) : r2 (rI0 fun i j => .int (Builtin.bitAnd i j)) vs H Q := by
  unfold fBand at h
  split at h
  · cases h
    rw [two_int r]
    exact ⟨_, _, rfl, _, _, rfl, rfl, q.int w⟩
  · cases h
theorem ok_neg (w : WS G H fs) (r : RepL K ct G H ds vs fs) (h : fNeg ds = some d) (q : Wants K ct G H fs d Q) : r1q (rU fun i => .int (-i)) vs H Q := by
  unfold fNeg at h
  split at h
  · cases h
    rw [one_int r]
    exact ⟨_, rfl, _, rfl, q.int w⟩
  · cases h
theorem ok_cmp {p : Int → Int → Bool} (w : WS G H fs) (r : RepL K ct G H ds vs fs) (h : fCmp p ds = some d) (q : Wants K ct G H fs d Q) : r2 (rI0 fun i j => .bl (p i j)) vs H Q := by
  unfold fCmp at h
  split at h
  · cases h
    rw [two_int r]
    exact ⟨_, _, rfl, _, _, rfl, rfl, q.bl w⟩
  · cases h
theorem isNon_v {v : V} {f : List Addr} (r : RepD K ct G H d v f) : d.isNon = decide (v = .non) := by
  cases d with
  | non => obtain ⟨rfl, _⟩ := r; rfl
  | bl b => obtain ⟨rfl, _⟩ := r; rfl
  | int b => obtain ⟨rfl, _⟩ := r; rfl
  | str b => obtain ⟨rfl, _⟩ := r; rfl
  | tup l => obtain ⟨a, xs, rfl, _⟩ := r; rfl
  | lst m l => cases m with
    | true => obtain ⟨a, xs, g, rfl, _⟩ := r; rfl
    | false => obtain ⟨_, a, xs, rfl, _⟩ := r; rfl
  | dct m ks l => cases m with
    | true => obtain ⟨a, xs, g, rfl, _⟩ := r; rfl
    | false => obtain ⟨_, a, xs, rfl, _⟩ := r; rfl
  | ins m c ks l => cases m with
    | true => obtain ⟨a, C, dx, xs, g, rfl, _⟩ := r; rfl
    | false => obtain ⟨_, a, C, dx, xs, rfl, _⟩ := r; rfl
  | exn c ks l => obtain ⟨_, a, C, dx, xs, rfl, _⟩ := r; rfl
theorem ok_isNon (w : WS G H fs) (r : RepL K ct G H ds vs fs) (h : fIsNon false ds = some d) (q : Wants K ct G H fs d Q) : ∃ x, vs = [x] ∧ Q (.bl (decide (x = .non))) H := by
  unfold fIsNon at h
  split at h
  · cases h
    obtain ⟨v, rfl, rv⟩ := r.one
    refine ⟨v, rfl, ?_⟩
    rw [isNon_v rv] at q
    have q' := q.bl w
    simpa using q'
  · cases h
theorem ok_notNon (w : WS G H fs) (r : RepL K ct G H ds vs fs) (h : fIsNon true ds = some d) (q : Wants K ct G H fs d Q) : ∃ x, vs = [x] ∧ Q (.bl (!decide (x = .non))) H := by
  unfold fIsNon at h
  split at h
  · cases h
    obtain ⟨v, rfl, rv⟩ := r.one
    refine ⟨v, rfl, ?_⟩
    rw [isNon_v rv] at q
    have q' := q.bl w
    rw [Bool.bne_true] at q'
    exact q'
  · cases h
theorem dec_beq (a b : Bool) : decide (a = b) = (a == b) := by cases a <;> cases b <;> rfl
theorem ok_isB (w : WS G H fs) (r : RepL K ct G H ds vs fs) (h : fIsB false ds = some d) (q : Wants K ct G H fs d Q) : r2 rIsBQ vs H Q := by
  unfold fIsB at h
  split at h
  · cases h
    rw [two_bl r]
    refine ⟨_, _, rfl, _, _, rfl, rfl, ?_⟩
    have q' := q.bl w
    rw [dec_beq]
    simpa using q'
  · cases h
theorem ok_notB (w : WS G H fs) (r : RepL K ct G H ds vs fs) (h : fIsB true ds = some d) (q : Wants K ct G H fs d Q) : r2 rNotBQ vs H Q := by
  unfold fIsB at h
  split at h
  · cases h
    rw [two_bl r]
    refine ⟨_, _, rfl, _, _, rfl, rfl, ?_⟩
    have q' := q.bl w
    rw [dec_beq]
    rw [Bool.bne_true] at q'
    exact q'
  · cases h
end LD
namespace LD
open PySem PySem.Spec PyProof.Rows L2
variable {K : PySem.W.Frag} {ct : Str → Option Addr} {G H : Hp} {ds : List D} {vs : List V} {fs : List Addr} {d : D} {Q : VK}

/-! ### equality -/
mutual
def D.py : D → PyData
  | .non => .none
  | .bl b => .bool b
  | .int i => .int i
  | .str s => .str s
  | .lst _ l => .list (D.pyL l)
  | .tup l => .tuple (D.pyL l)
  | _ => .none
def D.pyL : List D → List PyData
  | [] => []
  | d :: r => D.py d :: D.pyL r
end
mutual
theorem pl_lay : ∀ (n : Nat) (d : D), D.pl n d = true → d.py.canLay0 = true ∧ d.py.depth ≤ n
  | _, .non, _ => ⟨by simp [D.py, PyData.canLay0], by simp [D.py, PyData.depth]⟩
  | _, .bl _, _ => ⟨by simp [D.py, PyData.canLay0], by simp [D.py, PyData.depth]⟩
  | _, .int _, _ => ⟨by simp [D.py, PyData.canLay0], by simp [D.py, PyData.depth]⟩
  | n, .str s, h => ⟨by
      have h' : s.cps.all (· < 0x110000) = true := by cases n <;> exact h
      simpa [D.py, PyData.canLay0, PyData.strOk] using h', by simp [D.py, PyData.depth]⟩
  | n + 1, .lst m l, h => by
    have q := plL_lay n l h
    exact ⟨by simpa [D.py, PyData.canLay0] using q.1, by simp only [D.py, PyData.depth]; omega⟩
  | n + 1, .tup l, h => by
    have q := plL_lay n l h
    exact ⟨by simpa [D.py, PyData.canLay0] using q.1, by simp only [D.py, PyData.depth]; omega⟩
  | 0, .lst _ _, h => by cases h
  | 0, .tup _, h => by cases h
  | n, .dct _ _ _, h => by cases n <;> cases h
  | n, .ins _ _ _ _, h => by cases n <;> cases h
theorem plL_lay : ∀ (n : Nat) (l : List D), D.plL n l = true → PyData.canLayAll0 (D.pyL l) = true ∧ PyData.depthAll (D.pyL l) ≤ n
  | _, [], _ => ⟨by simp [D.pyL, PyData.canLayAll0], by simp [D.pyL, PyData.depthAll]⟩
  | n, d :: r, h => by
    have h' : (D.pl n d && D.plL n r) = true := h
    rw [Bool.and_eq_true] at h'
    have q1 := pl_lay n d h'.1
    have q2 := plL_lay n r h'.2
    exact ⟨by simp only [D.pyL, PyData.canLayAll0, q1.1, q2.1, Bool.and_self], by simp only [D.pyL, PyData.depthAll]; omega⟩
end
theorem pl_shaped {n : Nat} (hn : n ≤ 64) (h : D.pl n d = true) : SeqAt.shaped d.py = true := by
  have q := pl_lay n d h
  unfold SeqAt.shaped
  rw [q.1, Bool.true_and, decide_eq_true_eq]
  omega
mutual
theorem pl_dp (le : Le G H) : ∀ (n : Nat) (d : D) (v : V) (f : List Addr), D.pl n d = true → RepD K ct G H d v f → Dp K H v d.py
  | _, .non, _, _, _, ⟨h, _⟩ => by subst h; exact .non
  | _, .bl _, _, _, _, ⟨h, _⟩ => by subst h; exact .bl _
  | _, .int _, _, _, _, ⟨h, _⟩ => by subst h; exact .int _
  | _, .str _, _, _, _, ⟨h, _⟩ => by subst h; exact .str _
  | n + 1, .lst true l, _, _, h, ⟨a, xs, f, e, _, s, r⟩ => by subst e; exact .lst (SqL.of s) (plL_dp le n l xs f h r)
  | n + 1, .lst false l, _, _, h, ⟨_, a, xs, e, s, r⟩ => by subst e; exact .lst (le.sqL s) (plL_dp le n l xs [] h r)
  | n + 1, .tup l, _, f, h, ⟨a, xs, e, s, r⟩ => by subst e; exact .tup (le.sqT s) (plL_dp le n l xs f h r)
  | 0, .lst _ _, _, _, h, _ => by cases h
  | 0, .tup _, _, _, h, _ => by cases h
  | n, .dct _ _ _, _, _, h, _ => by cases n <;> cases h
  | n, .ins _ _ _ _, _, _, h, _ => by cases n <;> cases h
theorem plL_dp (le : Le G H) : ∀ (n : Nat) (l : List D) (vs : List V) (f : List Addr), D.plL n l = true → RepL K ct G H l vs f → DpAll K H vs (D.pyL l)
  | _, [], _, _, _, ⟨h, _⟩ => by subst h; exact .nil
  | n, d :: r, _, _, h, ⟨v, vs, f, g, e, _, rd, rr⟩ => by
    have h' : (D.pl n d && D.plL n r) = true := h
    rw [Bool.and_eq_true] at h'
    subst e
    exact .cons (pl_dp le n d v f h'.1 rd) (plL_dp le n r vs g h'.2 rr)
end
mutual
theorem pl_eqv : ∀ (n m : Nat) (a b : D), D.pl n a = true → D.pl m b = true → PyData.eqv a.py b.py = D.eqb a b
  | n, m, .dct _ _ _, _, h, _ => by cases n <;> cases h
  | n, m, .ins _ _ _ _, _, h, _ => by cases n <;> cases h
  | n, m, _, .dct _ _ _, _, h => by cases m <;> cases h
  | n, m, _, .ins _ _ _ _, _, h => by cases m <;> cases h
  | n + 1, m + 1, .lst _ a, .lst _ b, h, h' => by
    have q := plL_eqv n m a b h h'
    simpa [D.py, PyData.eqv, D.eqb] using q
  | n + 1, m + 1, .tup a, .tup b, h, h' => by
    have q := plL_eqv n m a b h h'
    simpa [D.py, PyData.eqv, D.eqb] using q
  | 0, _, .lst _ _, _, h, _ => by cases h
  | 0, _, .tup _, _, h, _ => by cases h
  | _, 0, _, .lst _ _, _, h => by cases h
  | _, 0, _, .tup _, _, h => by cases h
  | _, _, .non, .non, _, _ => by simp [D.py, PyData.eqv, D.eqb]
  | _, _, .non, .bl _, _, _ => by simp [D.py, PyData.eqv, D.eqb]
  | _, _, .non, .int _, _, _ => by simp [D.py, PyData.eqv, D.eqb]
  | _, _, .non, .str _, _, _ => by simp [D.py, PyData.eqv, D.eqb]
  | _, _, .bl _, .non, _, _ => by simp [D.py, PyData.eqv, D.eqb]
  | _, _, .bl _, .bl _, _, _ => by simp [D.py, PyData.eqv, D.eqb]
  | _, _, .bl _, .int _, _, _ => by simp [D.py, PyData.eqv, D.eqb]
  | _, _, .bl _, .str _, _, _ => by simp [D.py, PyData.eqv, D.eqb]
  | _, _, .int _, .non, _, _ => by simp [D.py, PyData.eqv, D.eqb]
  | _, _, .int _, .bl _, _, _ => by simp [D.py, PyData.eqv, D.eqb]
  | _, _, .int _, .int _, _, _ => by simp [D.py, PyData.eqv, D.eqb]
  | _, _, .int _, .str _, _, _ => by simp [D.py, PyData.eqv, D.eqb]
  | _, _, .str _, .non, _, _ => by simp [D.py, PyData.eqv, D.eqb]
  | _, _, .str _, .bl _, _, _ => by simp [D.py, PyData.eqv, D.eqb]
  | _, _, .str _, .int _, _, _ => by simp [D.py, PyData.eqv, D.eqb]
  | _, _, .str _, .str _, _, _ => by simp [D.py, PyData.eqv, D.eqb]
  | _, _ + 1, .non, .lst _ _, _, _ => by simp [D.py, PyData.eqv, D.eqb]
  | _, _ + 1, .non, .tup _, _, _ => by simp [D.py, PyData.eqv, D.eqb]
  | _, _ + 1, .bl _, .lst _ _, _, _ => by simp [D.py, PyData.eqv, D.eqb]
  | _, _ + 1, .bl _, .tup _, _, _ => by simp [D.py, PyData.eqv, D.eqb]
  | _, _ + 1, .int _, .lst _ _, _, _ => by simp [D.py, PyData.eqv, D.eqb]
  | _, _ + 1, .int _, .tup _, _, _ => by simp [D.py, PyData.eqv, D.eqb]
  | _, _ + 1, .str _, .lst _ _, _, _ => by simp [D.py, PyData.eqv, D.eqb]
  | _, _ + 1, .str _, .tup _, _, _ => by simp [D.py, PyData.eqv, D.eqb]
  | _ + 1, _, .lst _ _, .non, _, _ => by simp [D.py, PyData.eqv, D.eqb]
  | _ + 1, _, .lst _ _, .bl _, _, _ => by simp [D.py, PyData.eqv, D.eqb]
  | _ + 1, _, .lst _ _, .int _, _, _ => by simp [D.py, PyData.eqv, D.eqb]
  | _ + 1, _, .lst _ _, .str _, _, _ => by simp [D.py, PyData.eqv, D.eqb]
  | _ + 1, _ + 1, .lst _ _, .tup _, _, _ => by simp [D.py, PyData.eqv, D.eqb]
  | _ + 1, _, .tup _, .non, _, _ => by simp [D.py, PyData.eqv, D.eqb]
  | _ + 1, _, .tup _, .bl _, _, _ => by simp [D.py, PyData.eqv, D.eqb]
  | _ + 1, _, .tup _, .int _, _, _ => by simp [D.py, PyData.eqv, D.eqb]
  | _ + 1, _, .tup _, .str _, _, _ => by simp [D.py, PyData.eqv, D.eqb]
  | _ + 1, _ + 1, .tup _, .lst _ _, _, _ => by simp [D.py, PyData.eqv, D.eqb]
theorem plL_eqv : ∀ (n m : Nat) (a b : List D), D.plL n a = true → D.plL m b = true → PyData.eqvAll (D.pyL a) (D.pyL b) = D.eqbL a b
  | _, _, [], [], _, _ => by simp [D.pyL, PyData.eqvAll, D.eqbL]
  | _, _, [], _ :: _, _, _ => by simp [D.pyL, PyData.eqvAll, D.eqbL]
  | _, _, _ :: _, [], _, _ => by simp [D.pyL, PyData.eqvAll, D.eqbL]
  | n, m, a :: r, b :: t, h, h' => by
    have h1 : (D.pl n a && D.plL n r) = true := h
    have h2 : (D.pl m b && D.plL m t) = true := h'
    rw [Bool.and_eq_true] at h1 h2
    simp only [D.pyL, PyData.eqvAll, D.eqbL, pl_eqv n m a b h1.1 h2.1, plL_eqv n m r t h1.2 h2.2]
end
theorem scal_eq {a b : D} {v u : V} {f g : List Addr} (rv : RepD K ct G H a v f) (ru : RepD K ct G H b u g) (h : D.scal2 a b = true) : scal v u = true ∧ decide (v = u) = D.eqb a b := by
  cases a <;> cases b <;> first
    | (exfalso; exact Bool.noConfusion h)
    | (obtain ⟨rfl, _⟩ := rv; obtain ⟨rfl, _⟩ := ru; refine ⟨rfl, ?_⟩; simp [D.eqb]; done)
    | (obtain ⟨rfl, _⟩ := rv; obtain ⟨rfl, _⟩ := ru; refine ⟨rfl, ?_⟩; first | exact dec_int | exact dec_bl | exact dec_str)
theorem flat_v {v : V} {f : List Addr} (r : RepD K ct G H d v f) (h : d.flat = true) : flatV v = true := by
  cases d <;> first | (exfalso; exact Bool.noConfusion h) | (obtain ⟨rfl, _⟩ := r; rfl)
theorem flat_eq {a b : D} {v u : V} {f g : List Addr} (rv : RepD K ct G H a v f) (ru : RepD K ct G H b u g) (h : a.flat = true) (h' : b.flat = true) : eqV v u = D.eqb a b := by
  cases a <;> cases b <;> first
    | (exfalso; exact Bool.noConfusion h)
    | (exfalso; exact Bool.noConfusion h')
    | (obtain ⟨rfl, _⟩ := rv; obtain ⟨rfl, _⟩ := ru; simp [D.eqb, eqV]; done)
theorem key_v {k : D} {v : V} {f : List Addr} {kk : Key} (r : RepD K ct G H k v f) (h : keyOf k = some kk) : v = kV kk := by
  unfold keyOf at h
  split at h
  · cases h
    exact r.1
  · cases h
    exact r.1
  · cases h
theorem key_f {k : D} {v : V} {f : List Addr} {kk : Key} (r : RepD K ct G H k v f) (h : keyOf k = some kk) : f = [] := by
  cases k <;> first | (cases h; done) | (obtain ⟨_, rfl⟩ := r; rfl)
theorem valV_find {ks : List Key} {k : Key} : ∀ {xs : List V}, ks.length = xs.length → (valV (ks.zip xs) k).isSome = ks.any fun j => decide (j = k) := by
  induction ks with
  | nil => intro xs _; rfl
  | cons j ks ih =>
    intro xs hl
    cases xs with
    | nil => cases hl
    | cons x xs =>
      rw [List.zip_cons_cons, List.any_cons]
      by_cases e : j = k
      · subst e
        rw [valV_pos rfl, decide_eq_true rfl]
        rfl
      · rw [valV_neg e, ih (by simpa using hl), decide_eq_false e, Bool.false_or]
theorem valV_ix {ks : List Key} {k : Key} : ∀ {xs : List V}, ks.length = xs.length → valV (ks.zip xs) k = (ks.findIdx? fun j => decide (j = k)).bind fun i => xs[i]? := by
  induction ks with
  | nil => intro xs _; rfl
  | cons j ks ih =>
    intro xs hl
    cases xs with
    | nil => cases hl
    | cons x xs =>
      rw [List.zip_cons_cons, List.findIdx?_cons]
      by_cases e : j = k
      · subst e
        rw [valV_pos rfl]
        simp
      · rw [valV_neg e, ih (by simpa using hl), decide_eq_false e]
        simp only [Bool.false_eq_true, if_false]
        cases ks.findIdx? fun j => decide (j = k) <;> rfl

theorem flat_no {v : V} {f : List Addr} {n : Nat} {b : D} (r : RepD K ct G H d v f) (h : d.flat = false) (e : D.eqd (n + 1) d b = true) : ¬ flatV v = true := by
  cases d with
  | non => cases h
  | bl _ => cases h
  | int _ => cases h
  | str _ => cases h
  | lst m l =>
    cases m with
    | true =>
      obtain ⟨a, xs, g, rfl, _⟩ := r
      exact Bool.false_ne_true
    | false =>
      obtain ⟨_, a, xs, rfl, _⟩ := r
      exact Bool.false_ne_true
  | tup l =>
    obtain ⟨a, xs, rfl, _⟩ := r
    exact Bool.false_ne_true
  | dct m ks l =>
    cases m with
    | true =>
      obtain ⟨a, xs, g, rfl, _⟩ := r
      exact Bool.false_ne_true
    | false =>
      obtain ⟨_, a, xs, rfl, _⟩ := r
      exact Bool.false_ne_true
  | ins m c fs l => cases b <;> cases e
  | exn c fs l => cases b <;> cases e
theorem eqd_flat {a b : D} {v u : V} {f g : List Addr} (rv : RepD K ct G H a v f) (ru : RepD K ct G H b u g) (h : (a.flat && b.flat && D.eqb a b) = true) : flatV v = true ∧ flatV u = true ∧ eqV v u = true := by
  simp only [Bool.and_eq_true] at h
  obtain ⟨⟨h1, h2⟩, h3⟩ := h
  exact ⟨flat_v rv h1, flat_v ru h2, by rw [flat_eq rv ru h1 h2]; exact h3⟩
mutual
theorem eqd_ev (le : Le G H) : ∀ (n : Nat) (a b : D) (v u : V) (f g : List Addr), D.eqd n a b = true → RepD K ct G H a v f → RepD K ct G H b u g → EVX K H n v u
  | n + 1, .lst m a, .lst m' b, v, u, f, g, h, rv, ru => by
    obtain ⟨p, xs, f', rfl, e, rl, _, _⟩ := rv.lst_of le
    obtain ⟨p', xs', g', rfl, e', rl', _, _⟩ := ru.lst_of le
    exact .inr (.inl ⟨p, p', xs, xs', rfl, rfl, e, e', eqdL_ev le n a b xs xs' f' g' h rl rl'⟩)
  | n + 1, .tup a, .tup b, v, u, f, g, h, rv, ru => by
    obtain ⟨p, xs, rfl, e, rl⟩ := rv.tup_of le
    obtain ⟨p', xs', rfl, e', rl'⟩ := ru.tup_of le
    exact .inr (.inr (.inl ⟨p, p', xs, xs', rfl, rfl, e, e', eqdL_ev le n a b xs xs' f g h rl rl'⟩))
  | n + 1, .dct m ks a, .dct m' ks' b, v, u, f, g, h, rv, ru => by
    obtain ⟨p, xs, f', rfl, e, ll, rl, _, _⟩ := rv.dct_of le
    obtain ⟨p', xs', g', rfl, e', ll', rl', _, _⟩ := ru.dct_of le
    have h' : (ks.length == ks'.length && ks.length == a.length && ks'.length == b.length && D.eqdK n ks a ks' b) = true := h
    simp only [Bool.and_eq_true, beq_iff_eq] at h'
    obtain ⟨⟨⟨h1, h2⟩, h3⟩, h4⟩ := h'
    refine .inr (.inr (.inr ⟨p, p', ks.zip xs, ks'.zip xs', rfl, rfl, e, e', ?_, eqdK_ev le n ks a ks' b xs xs' f' g' h4 (by rw [rl'.length]; exact h3) rl rl'⟩))
    have q1 := rl.length
    have q2 := rl'.length
    simp only [List.length_zip]
    omega
  | 0, a, b, v, u, f, g, h, rv, ru => by
    have h' : (a.flat && b.flat && D.eqb a b) = true := by cases a <;> cases b <;> exact h
    exact eqd_flat rv ru h'
  | n + 1, .non, b, v, u, f, g, h, rv, ru => .inl (eqd_flat rv ru (by cases b <;> exact h))
  | n + 1, .bl _, b, v, u, f, g, h, rv, ru => .inl (eqd_flat rv ru (by cases b <;> exact h))
  | n + 1, .int _, b, v, u, f, g, h, rv, ru => .inl (eqd_flat rv ru (by cases b <;> exact h))
  | n + 1, .str _, b, v, u, f, g, h, rv, ru => .inl (eqd_flat rv ru (by cases b <;> exact h))
theorem eqdL_ev (le : Le G H) : ∀ (n : Nat) (a b : List D) (xs ys : List V) (f g : List Addr), D.eqdL n a b = true → RepL K ct G H a xs f → RepL K ct G H b ys g → Paired (EVX K H n) xs ys
  | n, [], [], _, _, _, _, _, ⟨hx, _⟩, ⟨hy, _⟩ => by
    subst hx hy
    exact .nil
  | n, a :: r, b :: s, _, _, f, g, h, rx, ry => by
    obtain ⟨x, xs, f1, f2, rfl, _, r1, r2⟩ := rx
    obtain ⟨y, ys, g1, g2, rfl, _, q1, q2⟩ := ry
    have h' : (D.eqd n a b && D.eqdL n r s) = true := h
    rw [Bool.and_eq_true] at h'
    exact .cons (eqd_ev le n a b x y f1 g1 h'.1 r1 q1) (eqdL_ev le n r s xs ys f2 g2 h'.2 r2 q2)
  | n, [], b :: s, _, _, _, _, h, _, _ => by cases h
  | n, a :: r, [], _, _, _, _, h, _, _ => by cases h
theorem eqdK_ev (le : Le G H) : ∀ (n : Nat) (ks : List Key) (a : List D) (ks' : List Key) (b : List D) (xs ys : List V) (f g : List Addr), D.eqdK n ks a ks' b = true → ks'.length = ys.length → RepL K ct G H a xs f → RepL K ct G H b ys g → ∀ p ∈ ks.zip xs, ∃ u, valV (ks'.zip ys) p.1 = some u ∧ EVX K H n p.2 u
  | n, k :: ks, v :: r, ks', b, _, ys, f, g, h, hl, rx, ry => by
    obtain ⟨x, xs, f1, f2, rfl, _, r1, r2⟩ := rx
    have h' : ((match (ks'.findIdx? fun j => decide (j = k)).bind fun i => b[i]? with
      | some y => D.eqd n v y
      | none => false) && D.eqdK n ks r ks' b) = true := h
    rw [Bool.and_eq_true] at h'
    obtain ⟨h1, h2⟩ := h'
    intro p hp
    rw [List.zip_cons_cons] at hp
    rcases List.mem_cons.mp hp with rfl | hp
    · rw [valV_ix hl]
      cases hi : ks'.findIdx? fun j => decide (j = k) with
      | none => rw [hi] at h1; cases h1
      | some i =>
        rw [hi] at h1
        simp only [Option.bind_some] at h1 ⊢
        cases hb : b[i]? with
        | none => rw [hb] at h1; cases h1
        | some y =>
          rw [hb] at h1
          obtain ⟨u, g1, e1, e2, _⟩ := ry.pick hb
          exact ⟨u, e1, eqd_ev le n v y x u f1 g1 h1 r1 e2⟩
    · exact eqdK_ev le n ks r ks' b xs ys f2 g h2 hl r2 ry p hp
  | n, [], a, ks', b, _, _, _, _, _, _, _, _ => fun p hp => by cases hp
  | n, k :: ks, [], ks', b, _, _, _, _, h, _, _, _ => by cases h
end
theorem ok_eqT {a b : D} {v u : V} {f g : List Addr} (le : Le G H) (h1 : D.scal2 a b = false) (h2 : (D.pl 9 a && D.pl 9 b) = false) (h : D.eqd 20 a b = true) (rv : RepD K ct G H a v f) (ru : RepD K ct G H b u g) : EVX K H 20 v u ∧ ¬ flatV v = true := by
  refine ⟨eqd_ev le 20 a b v u f g h rv ru, ?_⟩
  by_cases hf : a.flat = true
  · exfalso
    cases a <;> cases b <;> first | (cases h1; done) | (cases hf; done) | (cases h; done) | (cases h2; done)
  · exact flat_no (n := 19) rv (by simpa using hf) h
theorem ok_neT {a b : D} {v u : V} {f g : List Addr} (le : Le G H) (h : D.eqf a b = true) (rv : RepD K ct G H a v f) (ru : RepD K ct G H b u g) : ∃ p q ks ls, v = .ref p ∧ u = .ref q ∧ Rd H p (.dK ks) ∧ Rd H q (.dK ls) ∧ ks.length = ls.length ∧ ∀ p ∈ ks, ∃ u, valV ls p.1 = some u ∧ EVX K H 0 p.2 u := by
  unfold D.eqf at h
  split at h
  · rename_i m ks a m' ks' b
    obtain ⟨p, xs, f', rfl, e, ll, rl, _, _⟩ := rv.dct_of le
    obtain ⟨p', xs', g', rfl, e', ll', rl', _, _⟩ := ru.dct_of le
    have h' : (ks.length == ks'.length && ks.length == a.length && ks'.length == b.length && D.eqdK 0 ks a ks' b) = true := h
    simp only [Bool.and_eq_true, beq_iff_eq] at h'
    obtain ⟨⟨⟨h1, h2⟩, h3⟩, h4⟩ := h'
    refine ⟨p, p', ks.zip xs, ks'.zip xs', rfl, rfl, e, e', ?_, eqdK_ev le 0 ks a ks' b xs xs' f' g' h4 (by rw [rl'.length]; exact h3) rl rl'⟩
    have q1 := rl.length
    have q2 := rl'.length
    simp only [List.length_zip]
    omega
  · cases h
theorem ok_eq (w : WS G H fs) (r : RepL K ct G H ds vs fs) (h : fEq false ds = some d) (q : Wants K ct G H fs d Q) : r2 (rEqQ K) vs H Q := by
  unfold fEq at h
  split at h
  · rename_i a b
    obtain ⟨v, u, f, g, rfl, rfl, rv, ru⟩ := r.two
    refine ⟨v, u, rfl, ?_⟩
    split at h
    · rename_i hs
      cases h
      obtain ⟨s1, s2⟩ := scal_eq rv ru hs
      refine .inl ⟨s1, ?_⟩
      rw [s2]
      have q' := q.bl w
      simpa using q'
    · split at h
      · rename_i hs
        cases h
        rw [Bool.and_eq_true] at hs
        refine .inr (.inl ⟨a.py, b.py, pl_dp w.le 9 a v f hs.1 rv, pl_dp w.le 9 b u g hs.2 ru, pl_shaped (by decide) hs.1, pl_shaped (by decide) hs.2, ?_⟩)
        rw [pl_eqv 9 9 a b hs.1 hs.2]
        have q' := q.bl w
        simpa using q'
      · split at h
        · rename_i hn hn2 he
          cases h
          obtain ⟨z1, z2⟩ := ok_eqT w.le (by simpa using hn) (by simpa using hn2) (by simpa using he) rv ru
          exact .inr (.inr ⟨z1, z2, q.bl w⟩)
        · split at h
          · rename_i he
            cases he
          · cases h
  · cases h
theorem ok_ne (w : WS G H fs) (r : RepL K ct G H ds vs fs) (h : fEq true ds = some d) (q : Wants K ct G H fs d Q) : r2 (rNeQ K) vs H Q := by
  unfold fEq at h
  split at h
  · rename_i a b
    obtain ⟨v, u, f, g, rfl, rfl, rv, ru⟩ := r.two
    refine ⟨v, u, rfl, ?_⟩
    split at h
    · rename_i hs
      cases h
      obtain ⟨s1, s2⟩ := scal_eq rv ru hs
      refine .inl ⟨s1, ?_⟩
      rw [s2]
      have q' := q.bl w
      rw [Bool.bne_true] at q'
      exact q'
    · split at h
      · rename_i hs
        cases h
        rw [Bool.and_eq_true] at hs
        refine .inr (.inl ⟨a.py, b.py, pl_dp w.le 9 a v f hs.1 rv, pl_dp w.le 9 b u g hs.2 ru, pl_shaped (by decide) hs.1, pl_shaped (by decide) hs.2, ?_⟩)
        rw [pl_eqv 9 9 a b hs.1 hs.2]
        have q' := q.bl w
        rw [Bool.bne_true] at q'
        exact q'
      · split at h
        · rename_i he
          cases he
        · split at h
          · rename_i he
            cases h
            exact .inr (.inr ⟨ok_neT w.le (by simpa using he) rv ru, q.bl w⟩)
          · cases h
  · cases h
end LD
namespace LD
open PySem PySem.Spec PyProof.Rows L2
variable {K : PySem.W.Frag} {ct : Str → Option Addr} {G H : Hp} {ds : List D} {vs : List V} {fs : List Addr} {d : D} {Q : VK}

/-! ### is it in there -/
theorem flat_all : ∀ {l : List D} {xs : List V} {f : List Addr}, RepL K ct G H l xs f → l.all D.flat = true → xs.all flatV = true
  | [], _, _, ⟨h, _⟩, _ => by subst h; rfl
  | d :: l, _, _, ⟨v, vs, f, g, e, _, rd, rr⟩, h => by
    subst e
    rw [List.all_cons, Bool.and_eq_true] at h ⊢
    exact ⟨flat_v rd h.1, flat_all rr h.2⟩
theorem flat_any {x : D} {v : V} {f0 : List Addr} (rx : RepD K ct G H x v f0) (hx : x.flat = true) : ∀ {l : List D} {xs : List V} {f : List Addr}, RepL K ct G H l xs f → l.all D.flat = true → inV v xs = l.any fun y => D.eqb y x
  | [], _, _, ⟨h, _⟩, _ => by subst h; rfl
  | d :: l, _, _, ⟨u, vs, f, g, e, _, rd, rr⟩, h => by
    subst e
    rw [List.all_cons, Bool.and_eq_true] at h
    have ih := flat_any rx hx rr h.2
    unfold inV at ih ⊢
    rw [List.any_cons, List.any_cons, ih, flat_eq rd rx h.1 hx]
theorem pl_any {x : D} {n : Nat} (hx : D.pl n x = true) : ∀ {l : List D}, D.plL n l = true → ((D.pyL l).any fun z => PyData.eqv z x.py) = l.any fun y => D.eqb y x
  | [], _ => rfl
  | d :: l, h => by
    have h' : (D.pl n d && D.plL n l) = true := h
    rw [Bool.and_eq_true] at h'
    show ((d.py :: D.pyL l).any fun z => PyData.eqv z x.py) = _
    rw [List.any_cons, List.any_cons, pl_eqv n n d x h'.1 hx, pl_any hx h'.2]
theorem ok_in (w : WS G H fs) (r : RepL K ct G H ds vs fs) (h : fIn false ds = some d) (q : Wants K ct G H fs d Q) : r2 (rInQ K) vs H Q := by
  unfold fIn at h
  split at h
  · rename_i a z
    split at h
    · rename_i c hc
      cases h
      rw [two_str r]
      have ea : a = ⟨#[c]⟩ := by
        obtain ⟨cps⟩ := a
        have : cps.toList = [c] := hc
        congr 1
        apply Array.toList_inj.mp
        rw [this]
      subst ea
      refine ⟨_, _, rfl, .inl ⟨c, z, rfl, rfl, ?_⟩⟩
      have q' := q.bl w
      simpa using q'
    · cases h
  · rename_i x m l
    obtain ⟨v, u, f, g, rfl, rfl, rv, ru⟩ := r.two
    obtain ⟨a, xs, g', rfl, e, rl, s1, n1⟩ := ru.lst_of w.le
    split at h
    · rename_i hf
      cases h
      rw [Bool.and_eq_true] at hf
      refine ⟨v, _, rfl, .inr (.inl ⟨a, xs, rfl, .inl e, flat_v rv hf.1, flat_all rl hf.2, ?_⟩)⟩
      have q' := q.bl w
      rw [if_neg Bool.false_ne_true, flat_any rv hf.1 rl hf.2]
      simpa using q'
    · split at h
      · rename_i hf
        cases h
        rw [Bool.and_eq_true] at hf
        refine ⟨v, _, rfl, .inr (.inr (.inl ⟨x.py, D.pyL l, pl_dp w.le 8 x v f hf.1 rv, .lst e (plL_dp w.le 8 l xs g' hf.2 rl), pl_shaped (by decide) hf.1, ?_, ?_⟩))⟩
        · exact pl_shaped (n := 9) (d := .lst true l) (by decide) hf.2
        · rw [pl_any hf.1 hf.2]
          have q' := q.bl w
          simpa using q'
      · cases h
  · rename_i x l
    obtain ⟨v, u, f, g, rfl, rfl, rv, ru⟩ := r.two
    obtain ⟨a, xs, rfl, e, rl⟩ := ru.tup_of w.le
    split at h
    · rename_i hf
      cases h
      rw [Bool.and_eq_true] at hf
      refine ⟨v, _, rfl, .inr (.inl ⟨a, xs, rfl, .inr e, flat_v rv hf.1, flat_all rl hf.2, ?_⟩)⟩
      have q' := q.bl w
      rw [if_neg Bool.false_ne_true, flat_any rv hf.1 rl hf.2]
      simpa using q'
    · cases h
  · rename_i k m ks l
    obtain ⟨v, u, f, g, rfl, rfl, rv, ru⟩ := r.two
    obtain ⟨a, xs, g', rfl, e, ll, rl, s1, n1⟩ := ru.dct_of w.le
    cases hk : keyOf k with
    | none => rw [hk] at h; cases h
    | some kk =>
      rw [hk] at h
      cases h
      have ev := key_v rv hk
      subst ev
      refine ⟨_, _, rfl, .inr (.inr (.inr ⟨a, _, rfl, .inl ⟨_, kk, e, rfl, rfl⟩, ?_⟩))⟩
      rw [valV_find (by rw [rl.length]; exact ll)]
      have q' := q.bl w
      simpa using q'
  · cases h
theorem ok_notin (w : WS G H fs) (r : RepL K ct G H ds vs fs) (h : fIn true ds = some d) (q : Wants K ct G H fs d Q) : r2 (rNotInQ K) vs H Q := by
  unfold fIn at h
  split at h
  · rename_i a z
    split at h
    · rename_i c hc
      cases h
      rw [two_str r]
      have ea : a = ⟨#[c]⟩ := by
        obtain ⟨cps⟩ := a
        have : cps.toList = [c] := hc
        congr 1
        apply Array.toList_inj.mp
        rw [this]
      subst ea
      refine ⟨_, _, rfl, .inl ⟨c, z, rfl, rfl, ?_⟩⟩
      have q' := q.bl w
      rw [Bool.bne_true] at q'
      exact q'
    · cases h
  · rename_i x m l
    obtain ⟨v, u, f, g, rfl, rfl, rv, ru⟩ := r.two
    obtain ⟨a, xs, g', rfl, e, rl, s1, n1⟩ := ru.lst_of w.le
    split at h
    · rename_i hf
      cases h
      rw [Bool.and_eq_true] at hf
      refine ⟨v, _, rfl, .inr (.inl ⟨a, xs, rfl, .inl e, flat_v rv hf.1, flat_all rl hf.2, ?_⟩)⟩
      have q' := q.bl w
      rw [if_pos rfl, flat_any rv hf.1 rl hf.2]
      rw [Bool.bne_true] at q'
      exact q'
    · split at h
      · rename_i hf
        cases h
        rw [Bool.and_eq_true] at hf
        refine ⟨v, _, rfl, .inr (.inr (.inl ⟨x.py, D.pyL l, pl_dp w.le 8 x v f hf.1 rv, .lst e (plL_dp w.le 8 l xs g' hf.2 rl), pl_shaped (by decide) hf.1, ?_, ?_⟩))⟩
        · exact pl_shaped (n := 9) (d := .lst true l) (by decide) hf.2
        · rw [pl_any hf.1 hf.2]
          have q' := q.bl w
          rw [Bool.bne_true] at q'
          exact q'
      · cases h
  · rename_i x l
    obtain ⟨v, u, f, g, rfl, rfl, rv, ru⟩ := r.two
    obtain ⟨a, xs, rfl, e, rl⟩ := ru.tup_of w.le
    split at h
    · rename_i hf
      cases h
      rw [Bool.and_eq_true] at hf
      refine ⟨v, _, rfl, .inr (.inl ⟨a, xs, rfl, .inr e, flat_v rv hf.1, flat_all rl hf.2, ?_⟩)⟩
      have q' := q.bl w
      rw [if_pos rfl, flat_any rv hf.1 rl hf.2]
      rw [Bool.bne_true] at q'
      exact q'
    · cases h
  · rename_i k m ks l
    obtain ⟨v, u, f, g, rfl, rfl, rv, ru⟩ := r.two
    obtain ⟨a, xs, g', rfl, e, ll, rl, s1, n1⟩ := ru.dct_of w.le
    cases hk : keyOf k with
    | none => rw [hk] at h; cases h
    | some kk =>
      rw [hk] at h
      cases h
      have ev := key_v rv hk
      subst ev
      refine ⟨_, _, rfl, .inr (.inr (.inr ⟨a, _, rfl, .inl ⟨_, kk, e, rfl, rfl⟩, ?_⟩))⟩
      rw [valV_find (by rw [rl.length]; exact ll)]
      have q' := q.bl w
      rw [Bool.bne_true] at q'
      exact q'
  · cases h

/-! ### items, slices, fields -/
theorem atI_of {α : Type} {xs : List α} {i : Int} {n k : Nat} {x : α} (hn : n = xs.length) (h1 : ixN n i = some k) (h2 : xs[k]? = some x) : atI xs i = some x := by
  subst hn
  show (ixN xs.length i).bind (fun j => xs[j]?) = some x
  rw [h1]
  exact h2
theorem ok_ix (w : WS G H fs) (r : RepL K ct G H ds vs fs) (h : fIx ds = some d) (q : Wants K ct G H fs d Q) : r2 (rIxQ K) vs H Q := by
  unfold fIx at h
  split at h
  · rename_i m l i
    obtain ⟨v, u, f, g, rfl, rfl, rv, ⟨rfl, rfl⟩⟩ := r.two
    obtain ⟨a, xs, f', rfl, e, rl, s1, n1⟩ := rv.lst_of w.le
    cases hk : ixN l.length i with
    | none => rw [hk] at h; cases h
    | some k =>
      rw [hk] at h
      obtain ⟨v1, g1, h1, h2, h3, h4⟩ := rl.pick h
      rw [List.append_nil] at w q
      exact ⟨_, _, rfl, .inl ⟨a, xs, i, v1, rfl, rfl, e, atI_of rl.length.symm hk h1, Wants.sub w h2 (fun b m => s1 b (h3 b m)) (h4 (n1 w.nd)) q⟩⟩
  · rename_i l i
    obtain ⟨v, u, f, g, rfl, rfl, rv, ⟨rfl, rfl⟩⟩ := r.two
    obtain ⟨a, xs, rfl, e, rl⟩ := rv.tup_of w.le
    cases hk : ixN l.length i with
    | none => rw [hk] at h; cases h
    | some k =>
      rw [hk] at h
      obtain ⟨v1, g1, h1, h2, h3, h4⟩ := rl.pick h
      rw [List.append_nil] at w q
      exact ⟨_, _, rfl, .inr (.inl ⟨a, xs, i, v1, rfl, rfl, e, atI_of rl.length.symm hk h1, Wants.sub w h2 h3 (h4 w.nd) q⟩)⟩
  · rename_i z i
    split at h
    · rename_i hl
      obtain ⟨v, u, f, g, rfl, rfl, ⟨rfl, rfl⟩, ⟨rfl, rfl⟩⟩ := r.two
      cases hk : (ixN z.cps.toList.length i).bind fun k => z.cps.toList[k]? with
      | none => rw [hk] at h; cases h
      | some c =>
        rw [hk] at h
        cases h
        exact ⟨_, _, rfl, .inr (.inr (.inl ⟨z, i, c, rfl, rfl, lim_line' hl, hk, q.str w⟩))⟩
    · cases h
  · rename_i m ks l k
    obtain ⟨v, u, f, g, rfl, rfl, rv, rk⟩ := r.two
    obtain ⟨a, xs, f', rfl, e, ll, rl, s1, n1⟩ := rv.dct_of w.le
    cases hk : keyOf k with
    | none => rw [hk] at h; cases h
    | some kk =>
      rw [hk] at h
      have ev := key_v rk hk
      subst ev
      have h' : ((ks.findIdx? fun j => decide (j = kk)).bind fun i => l[i]?) = some d := h
      cases hj : ks.findIdx? fun j => decide (j = kk) with
      | none => rw [hj] at h'; cases h'
      | some j =>
        rw [hj] at h'
        obtain ⟨v1, g1, h1, h2, h3, h4⟩ := rl.pick h'
        refine ⟨_, _, rfl, .inr (.inr (.inr ⟨a, v1, rfl, .inl ⟨_, kk, e, rfl, (findIdx_val hj h1).symm⟩, ?_⟩))⟩
        exact Wants.sub w h2 (fun b m => List.mem_append_left _ (s1 b (h3 b m))) (h4 (n1 (List.nodup_append.mp w.nd).1)) q
  · cases h
theorem RepL.drop {l : List D} {xs : List V} {f : List Addr} (r : RepL K ct G H l xs f) (n : Nat) : ∃ g, RepL K ct G H (l.drop n) (xs.drop n) g ∧ (∀ b, b ∈ g → b ∈ f) ∧ (f.Nodup → g.Nodup) := by
  by_cases hn : n ≤ l.length
  · have e := (List.take_append_drop n l).symm
    rw [e] at r
    obtain ⟨v1, v2, f1, f2, e1, e2, r1, r2⟩ := r.split
    have hl : v1.length = n := by rw [r1.length, List.length_take, Nat.min_eq_left hn]
    refine ⟨f2, ?_, fun b m => by rw [e2]; exact List.mem_append_right _ m, fun nd => by rw [e2] at nd; exact (List.nodup_append.mp nd).2.1⟩
    rw [e1, List.drop_append, hl]
    simpa [← hl] using r2
  · have h0 : l.drop n = [] := List.drop_eq_nil_of_le (by omega)
    have h1 : xs.drop n = [] := List.drop_eq_nil_of_le (by rw [r.length]; omega)
    rw [h0, h1]
    exact ⟨[], ⟨rfl, rfl⟩, fun b m => (by cases m), fun _ => List.nodup_nil⟩
theorem RepL.take {l : List D} {xs : List V} {f : List Addr} (r : RepL K ct G H l xs f) (n : Nat) : ∃ g, RepL K ct G H (l.take n) (xs.take n) g ∧ (∀ b, b ∈ g → b ∈ f) ∧ (f.Nodup → g.Nodup) := by
  by_cases hn : n ≤ l.length
  · have e := (List.take_append_drop n l).symm
    rw [e] at r
    obtain ⟨v1, v2, f1, f2, e1, e2, r1, r2⟩ := r.split
    have hl : v1.length = n := by rw [r1.length, List.length_take, Nat.min_eq_left hn]
    refine ⟨f1, ?_, fun b m => by rw [e2]; exact List.mem_append_left _ m, fun nd => by rw [e2] at nd; exact (List.nodup_append.mp nd).1⟩
    rw [e1, List.take_append, hl]
    simpa [← hl] using r1
  · rw [List.take_of_length_le (by omega), List.take_of_length_le (by rw [r.length]; omega)]
    exact ⟨f, r, fun _ m => m, fun n => n⟩
theorem RepL.cut {l : List D} {xs : List V} {f : List Addr} (r : RepL K ct G H l xs f) (lo hi : Option Int) : ∃ g, RepL K ct G H (cutL l lo hi) (cutV xs lo hi) g ∧ (∀ b, b ∈ g → b ∈ f) ∧ (f.Nodup → g.Nodup) := by
  obtain ⟨g, r1, s1, n1⟩ := r.drop (HT.sIx l.length 0 lo)
  obtain ⟨g2, r2, s2, n2⟩ := r1.take (HT.sIx l.length l.length hi - HT.sIx l.length 0 lo)
  refine ⟨g2, ?_, fun b m => s1 b (s2 b m), fun n => n2 (n1 n)⟩
  unfold cutL cutV
  rw [r.length]
  exact r2
theorem cut_whole {α : Type} {l : List α} {lo hi : Option Int} (h : HT.sIx l.length 0 lo = 0 ∧ HT.sIx l.length l.length hi = l.length) : cutL l lo hi = l := by
  unfold cutL
  rw [h.1, h.2]
  simp
theorem ok_slx {lo hi : Option Int} {x : D} {v : V} (w : WS G H fs) (r : RepD K ct G H x v fs) (h : fSlx lo hi x = some d) (q : Wants K ct G H fs d Q) : rSlQ K v lo hi H Q := by
  unfold fSlx at h
  split at h
  · cases h
    obtain ⟨a, xs, f', rfl, e, rl, s1, n1⟩ := r.lst_of w.le
    obtain ⟨g, rc, s2, n2⟩ := rl.cut lo hi
    exact .inl ⟨a, xs, rfl, e, Wants.newL w rc (fun b m => s1 b (s2 b m)) (n2 (n1 w.nd)) q⟩
  · rename_i l
    cases h
    obtain ⟨a, xs, rfl, e, rl⟩ := r.tup_of w.le
    obtain ⟨g, rc, s2, n2⟩ := rl.cut lo hi
    refine .inr (.inr ⟨a, xs, rfl, e, fun hw => ?_, fun _ => Wants.newT w rc s2 (n2 w.nd) q⟩)
    rw [rl.length] at hw
    rw [cut_whole hw] at q
    exact Wants.sub w r (fun _ m => m) w.nd q
  · split at h
    · rename_i z hl
      cases h
      obtain ⟨rfl, rfl⟩ := r
      exact .inr (.inl ⟨z, rfl, lim_line' hl, q.str w⟩)
    · cases h
  · cases h
theorem ok_sl {b1 b2 : Bool} (w : WS G H fs) (r : RepL K ct G H ds vs fs) (h : fSl b1 b2 ds = some d) (q : Wants K ct G H fs d Q) : rSlO K b1 b2 vs H Q := by
  unfold fSl at h
  split at h
  · obtain ⟨v, u, x, f, g, g2, rfl, rfl, rv, ⟨rfl, rfl⟩, ⟨rfl, rfl⟩⟩ := r.three
    simp only [List.append_nil] at w q
    exact ⟨v, _, _, rfl, ok_slx w rv h q⟩
  · obtain ⟨v, u, f, g, rfl, rfl, rv, ⟨rfl, rfl⟩⟩ := r.two
    simp only [List.append_nil] at w q
    exact ⟨v, _, rfl, ok_slx w rv h q⟩
  · obtain ⟨v, u, f, g, rfl, rfl, rv, ⟨rfl, rfl⟩⟩ := r.two
    simp only [List.append_nil] at w q
    exact ⟨v, _, rfl, ok_slx w rv h q⟩
  · obtain ⟨v, rfl, rv⟩ := r.one
    exact ⟨v, rfl, ok_slx w rv h q⟩
  · cases h
theorem ok_fld {fl : Str} (w : WS G H fs) (r : RepL K ct G H ds vs fs) (h : fFld fl ds = some d) (q : Wants K ct G H fs d Q) : r1q (rFldE ct fl) vs H Q := by
  unfold fFld at h
  split at h
  · rename_i m c fns l
    split at h
    · cases h
    · rename_i hx
      obtain ⟨v, rfl, rv⟩ := r.one
      obtain ⟨a, C, dx, xs, f', rfl, hc, e, ll, rl, s1, n1⟩ := rv.ins_of w.le
      cases hj : fns.findIdx? fun g => decide (g = fl) with
      | none => rw [hj] at h; cases h
      | some j =>
        rw [hj] at h
        obtain ⟨v1, g1, h1, h2, h3, h4⟩ := rl.pick h
        exact ⟨_, rfl, .inl ⟨a, C, dx, _, v1, rfl, e, ⟨c, hc, by simpa using hx⟩, findIdx_lookup hj h1, Wants.sub w h2 (fun b m => s1 b (h3 b m)) (h4 (n1 w.nd)) q⟩⟩
  · rename_i c fns l
    split at h
    · rename_i hx
      obtain ⟨v, rfl, rv⟩ := r.one
      obtain ⟨e0, a, C, dd, xs, rfl, hc, s, s2, ll, rl⟩ := rv
      cases hj : fns.findIdx? fun g => decide (g = fl) with
      | none => rw [hj] at h; cases h
      | some j =>
        rw [hj] at h
        obtain ⟨v1, g1, h1, h2, h3, h4⟩ := rl.pick h
        have lk := findIdx_lookup hj h1
        cases dd with
        | none =>
          have s2' : fns.zip xs = [] := s2
          rw [s2'] at lk
          cases lk
        | some dd => exact ⟨_, rfl, .inr ⟨a, C, dd, _, v1, rfl, w.le.rd _ _ s, w.le.rd _ _ s2, ⟨c, hc, hx⟩, lk, Wants.sub w h2 (fun b m => (by cases h3 b m)) (h4 List.nodup_nil) q⟩⟩
    · cases h
  · cases h
end LD
namespace LD
open PySem PySem.Spec PyProof.Rows L2
variable {K : PySem.W.Frag} {ct : Str → Option Addr} {G H : Hp} {ds : List D} {vs : List V} {fs : List Addr} {d : D} {Q : VK}

theorem ints_rep : ∀ {l : List D} {ns : List Int} {xs : List V} {f : List Addr}, D.ints l = some ns → RepL K ct G H l xs f → xs = ns.map V.int ∧ f = []
  | [], _, _, _, h, ⟨e, e'⟩ => by
    have : ([] : List Int) = _ := Option.some.inj h
    subst this
    exact ⟨e, e'⟩
  | d :: l, ns, _, _, h, ⟨v, vs, f, g, e, e', rd, rr⟩ => by
    cases d with
    | int i =>
      have h' : (D.ints l).map (i :: ·) = some ns := h
      cases hl : D.ints l with
      | none => rw [hl] at h'; cases h'
      | some ms =>
        rw [hl] at h'
        cases h'
        obtain ⟨e1, e2⟩ := ints_rep hl rr
        obtain ⟨e3, e4⟩ := rd
        subst e1 e2 e3 e4
        exact ⟨e, e'⟩
    | _ => cases h
theorem bls_rep : ∀ {l : List D} {ns : List Bool} {xs : List V} {f : List Addr}, D.bls l = some ns → RepL K ct G H l xs f → xs = ns.map V.bl ∧ f = []
  | [], _, _, _, h, ⟨e, e'⟩ => by
    have : ([] : List Bool) = _ := Option.some.inj h
    subst this
    exact ⟨e, e'⟩
  | d :: l, ns, _, _, h, ⟨v, vs, f, g, e, e', rd, rr⟩ => by
    cases d with
    | bl i =>
      have h' : (D.bls l).map (i :: ·) = some ns := h
      cases hl : D.bls l with
      | none => rw [hl] at h'; cases h'
      | some ms =>
        rw [hl] at h'
        cases h'
        obtain ⟨e1, e2⟩ := bls_rep hl rr
        obtain ⟨e3, e4⟩ := rd
        subst e1 e2 e3 e4
        exact ⟨e, e'⟩
    | _ => cases h
theorem strs_rep : ∀ {l : List D} {ns : List Str} {xs : List V} {f : List Addr}, D.strs l = some ns → RepL K ct G H l xs f → xs = ns.map V.str ∧ f = []
  | [], _, _, _, h, ⟨e, e'⟩ => by
    have : ([] : List Str) = _ := Option.some.inj h
    subst this
    exact ⟨e, e'⟩
  | d :: l, ns, _, _, h, ⟨v, vs, f, g, e, e', rd, rr⟩ => by
    cases d with
    | str i =>
      have h' : (D.strs l).map (i :: ·) = some ns := h
      cases hl : D.strs l with
      | none => rw [hl] at h'; cases h'
      | some ms =>
        rw [hl] at h'
        cases h'
        obtain ⟨e1, e2⟩ := strs_rep hl rr
        obtain ⟨e3, e4⟩ := rd
        subst e1 e2 e3 e4
        exact ⟨e, e'⟩
    | _ => cases h
theorem ok_len (w : WS G H fs) (r : RepL K ct G H ds vs fs) (h : fLen ds = some d) (q : Wants K ct G H fs d Q) : rLenQ K vs H Q := by
  unfold fLen at h
  split at h
  · cases h
    obtain ⟨v, rfl, rv⟩ := r.one
    obtain ⟨a, xs, f', rfl, e, rl, _, _⟩ := rv.lst_of w.le
    exact .inl ⟨_, _, rfl, .inl ⟨xs, e, rl.length.symm⟩, q.int w⟩
  · cases h
    obtain ⟨v, rfl, rv⟩ := r.one
    obtain ⟨a, xs, rfl, e, rl⟩ := rv.tup_of w.le
    exact .inl ⟨_, _, rfl, .inr ⟨xs, e, rl.length.symm⟩, q.int w⟩
  · split at h
    · rename_i z hl
      cases h
      obtain ⟨v, rfl, ⟨rfl, _⟩⟩ := r.one
      exact .inl ⟨_, _, rfl, ⟨lim_line' hl, rfl⟩, q.int w⟩
    · cases h
  · rename_i ks l
    cases h
    obtain ⟨v, rfl, rv⟩ := r.one
    obtain ⟨a, xs, f', rfl, e, ll, rl, _, _⟩ := rv.dct_of w.le
    refine .inr ⟨a, _, rfl, e, ?_⟩
    have : (ks.zip xs).length = ks.length := by rw [List.length_zip, rl.length, ← ll, Nat.min_self]
    rw [this]
    exact q.int w
  · rename_i ks l
    cases h
    obtain ⟨v, rfl, rv⟩ := r.one
    obtain ⟨a, xs, f', rfl, e, ll, rl, _, _⟩ := rv.dct_of w.le
    refine .inr ⟨a, _, rfl, e, ?_⟩
    have : (ks.zip xs).length = ks.length := by rw [List.length_zip, rl.length, ← ll, Nat.min_self]
    rw [this]
    exact q.int w
  · cases h
theorem ok_sum (w : WS G H fs) (r : RepL K ct G H ds vs fs) (h : fSum ds = some d) (q : Wants K ct G H fs d Q) : rSum K vs H Q := by
  unfold fSum at h
  split at h
  · rename_i m l
    obtain ⟨v, rfl, rv⟩ := r.one
    obtain ⟨a, xs, f', rfl, e, rl, _, _⟩ := rv.lst_of w.le
    cases hi : D.ints l with
    | none => rw [hi] at h; cases h
    | some ns =>
      rw [hi] at h
      cases h
      obtain ⟨rfl, _⟩ := ints_rep hi rl
      exact ⟨a, ns, rfl, e, q.int w⟩
  · cases h
theorem ok_all (w : WS G H fs) (r : RepL K ct G H ds vs fs) (h : fAll ds = some d) (q : Wants K ct G H fs d Q) : rAll K vs H Q := by
  unfold fAll at h
  split at h
  · rename_i m l
    obtain ⟨v, rfl, rv⟩ := r.one
    obtain ⟨a, xs, f', rfl, e, rl, _, _⟩ := rv.lst_of w.le
    cases hi : D.bls l with
    | none => rw [hi] at h; cases h
    | some ns =>
      rw [hi] at h
      cases h
      obtain ⟨rfl, _⟩ := bls_rep hi rl
      exact ⟨a, ns, rfl, e, q.bl w⟩
  · cases h
theorem ok_any (w : WS G H fs) (r : RepL K ct G H ds vs fs) (h : fAny ds = some d) (q : Wants K ct G H fs d Q) : rAny K vs H Q := by
  unfold fAny at h
  split at h
  · rename_i m l
    obtain ⟨v, rfl, rv⟩ := r.one
    obtain ⟨a, xs, f', rfl, e, rl, _, _⟩ := rv.lst_of w.le
    cases hi : D.bls l with
    | none => rw [hi] at h; cases h
    | some ns =>
      rw [hi] at h
      cases h
      obtain ⟨rfl, _⟩ := bls_rep hi rl
      exact ⟨a, ns, rfl, e, q.bl w⟩
  · cases h
theorem ok_abs (w : WS G H fs) (r : RepL K ct G H ds vs fs) (h : fAbs ds = some d) (q : Wants K ct G H fs d Q) : ∃ i, vs = [.int i] ∧ Q (.int (if i < 0 then -i else i)) H := by
  unfold fAbs at h
  split at h
  · cases h
    rw [one_int r]
    exact ⟨_, rfl, q.int w⟩
  · cases h
theorem ok_max2 (w : WS G H fs) (r : RepL K ct G H ds vs fs) (h : fMax2 ds = some d) (q : Wants K ct G H fs d Q) : ∃ i j, vs = [.int i, .int j] ∧ Q (.int (if j > i then j else i)) H := by
  unfold fMax2 at h
  split at h
  · cases h
    rw [two_int r]
    exact ⟨_, _, rfl, q.int w⟩
  · cases h
theorem ok_min2 (w : WS G H fs) (r : RepL K ct G H ds vs fs) (h : fMin2 ds = some d) (q : Wants K ct G H fs d Q) : ∃ i j, vs = [.int i, .int j] ∧ Q (.int (if j < i then j else i)) H := by
  unfold fMin2 at h
  split at h
  · cases h
    rw [two_int r]
    exact ⟨_, _, rfl, q.int w⟩
  · cases h
theorem maxI_spec : ∀ (a : Int) (r : List Int), maxI (a :: r) ∈ a :: r ∧ ∀ y ∈ a :: r, y ≤ maxI (a :: r)
  | a, [] => ⟨List.mem_cons_self, fun y m => by
    rcases List.mem_cons.mp m with rfl | m
    · exact Int.le_refl _
    · cases m⟩
  | a, b :: r => by
    obtain ⟨h1, h2⟩ := maxI_spec b r
    have e : maxI (a :: b :: r) = if maxI (b :: r) > a then maxI (b :: r) else a := rfl
    rw [e]
    split
    · rename_i hg
      exact ⟨List.mem_cons_of_mem _ h1, fun y m => by
        rcases List.mem_cons.mp m with rfl | m
        · omega
        · exact h2 y m⟩
    · rename_i hg
      exact ⟨List.mem_cons_self, fun y m => by
        rcases List.mem_cons.mp m with rfl | m
        · exact Int.le_refl _
        · have := h2 y m; omega⟩
theorem minI_spec : ∀ (a : Int) (r : List Int), minI (a :: r) ∈ a :: r ∧ ∀ y ∈ a :: r, minI (a :: r) ≤ y
  | a, [] => ⟨List.mem_cons_self, fun y m => by
    rcases List.mem_cons.mp m with rfl | m
    · exact Int.le_refl _
    · cases m⟩
  | a, b :: r => by
    obtain ⟨h1, h2⟩ := minI_spec b r
    have e : minI (a :: b :: r) = if minI (b :: r) < a then minI (b :: r) else a := rfl
    rw [e]
    split
    · rename_i hg
      exact ⟨List.mem_cons_of_mem _ h1, fun y m => by
        rcases List.mem_cons.mp m with rfl | m
        · omega
        · exact h2 y m⟩
    · rename_i hg
      exact ⟨List.mem_cons_self, fun y m => by
        rcases List.mem_cons.mp m with rfl | m
        · exact Int.le_refl _
        · have := h2 y m; omega⟩
theorem ok_maxL (w : WS G H fs) (r : RepL K ct G H ds vs fs) (h : fMaxL ds = some d) (q : Wants K ct G H fs d Q) : rMax K vs H Q := by
  unfold fMaxL at h
  split at h
  · split at h
    · rename_i m l _ a rr hi
      cases h
      obtain ⟨v, rfl, rv⟩ := r.one
      obtain ⟨p, xs, f', rfl, e, rl, _, _⟩ := rv.lst_of w.le
      obtain ⟨rfl, _⟩ := ints_rep hi rl
      refine ⟨p, _, rfl, e, Nat.succ_pos _, fun x hx hy => ?_⟩
      obtain ⟨h1, h2⟩ := maxI_spec a rr
      have : x = maxI (a :: rr) := Int.le_antisymm (h2 x hx) (hy _ h1)
      rw [this]
      exact q.int w
    · cases h
  · cases h
theorem ok_minL (w : WS G H fs) (r : RepL K ct G H ds vs fs) (h : fMinL ds = some d) (q : Wants K ct G H fs d Q) : rMin K vs H Q := by
  unfold fMinL at h
  split at h
  · split at h
    · rename_i m l _ a rr hi
      cases h
      obtain ⟨v, rfl, rv⟩ := r.one
      obtain ⟨p, xs, f', rfl, e, rl, _, _⟩ := rv.lst_of w.le
      obtain ⟨rfl, _⟩ := ints_rep hi rl
      refine ⟨p, _, rfl, e, Nat.succ_pos _, fun x hx hy => ?_⟩
      obtain ⟨h1, h2⟩ := minI_spec a rr
      have : x = minI (a :: rr) := Int.le_antisymm (hy _ h1) (h2 x hx)
      rw [this]
      exact q.int w
    · cases h
  · cases h
theorem insI_perm (a : Int) : ∀ l : List Int, (insI a l).Perm (a :: l)
  | [] => List.Perm.refl _
  | b :: l => by
    unfold insI
    split
    · exact List.Perm.refl _
    · exact ((insI_perm a l).cons b).trans (List.Perm.swap a b l)
theorem sortI_perm : ∀ l : List Int, (sortI l).Perm l
  | [] => List.Perm.refl _
  | a :: l => (insI_perm a (sortI l)).trans ((sortI_perm l).cons a)
theorem insI_mem {a x : Int} {l : List Int} (h : x ∈ insI a l) : x = a ∨ x ∈ l := List.mem_cons.mp ((insI_perm a l).mem_iff.mp h)
theorem insI_sorted (a : Int) : ∀ l : List Int, l.Pairwise (· ≤ ·) → (insI a l).Pairwise (· ≤ ·)
  | [], _ => List.pairwise_singleton _ _
  | b :: l, h => by
    have hb := List.pairwise_cons.mp h
    unfold insI
    split
    · rename_i hab
      refine List.pairwise_cons.mpr ⟨fun x m => ?_, h⟩
      rcases List.mem_cons.mp m with rfl | m
      · exact hab
      · exact Int.le_trans hab (hb.1 x m)
    · rename_i hab
      refine List.pairwise_cons.mpr ⟨fun x m => ?_, insI_sorted a l hb.2⟩
      rcases insI_mem m with rfl | m
      · omega
      · exact hb.1 x m
theorem sortI_sorted : ∀ l : List Int, (sortI l).Pairwise (· ≤ ·)
  | [] => List.Pairwise.nil
  | a :: l => insI_sorted a _ (sortI_sorted l)
theorem sorted_one : ∀ {l m : List Int}, l.Perm m → l.Pairwise (· ≤ ·) → m.Pairwise (· ≤ ·) → l = m
  | [], m, p, _, _ => (List.nil_perm.mp p).symm
  | a :: l, [], p, _, _ => by cases List.perm_nil.mp p
  | a :: l, b :: m, p, h1, h2 => by
    have q1 := List.pairwise_cons.mp h1
    have q2 := List.pairwise_cons.mp h2
    have e : a = b := by
      have m1 : a ∈ b :: m := p.mem_iff.mp List.mem_cons_self
      have m2 : b ∈ a :: l := p.mem_iff.mpr List.mem_cons_self
      rcases List.mem_cons.mp m1 with h | h
      · exact h
      · rcases List.mem_cons.mp m2 with h' | h'
        · exact h'.symm
        · exact Int.le_antisymm (q1.1 b h') (q2.1 a h)
    subst e
    rw [sorted_one (List.Perm.cons_inv p) q1.2 q2.2]
theorem repL_ints (G H : Hp) : ∀ ns : List Int, RepL K ct G H (ns.map D.int) (ns.map V.int) []
  | [] => ⟨rfl, rfl⟩
  | n :: ns => ⟨.int n, _, [], [], rfl, rfl, ⟨rfl, rfl⟩, repL_ints G H ns⟩
theorem repL_strs (G H : Hp) : ∀ ns : List Str, RepL K ct G H (ns.map D.str) (ns.map V.str) []
  | [] => ⟨rfl, rfl⟩
  | n :: ns => ⟨.str n, _, [], [], rfl, rfl, ⟨rfl, rfl⟩, repL_strs G H ns⟩
theorem strKs_eq : ∀ {ks : List Key} {ss : List Str}, strKs ks = some ss → ks = ss.map Sum.inr
  | [], ss, h => by
    cases h
    rfl
  | .inr s :: r, ss, h => by
    have h' : (strKs r).map (s :: ·) = some ss := h
    cases hr : strKs r with
    | none => rw [hr] at h'; cases h'
    | some q =>
      rw [hr] at h'
      cases h'
      rw [strKs_eq hr]
      rfl
  | .inl s :: r, ss, h => by cases h
theorem intKs_eq : ∀ {ks : List Key} {ss : List Int}, intKs ks = some ss → ks = ss.map Sum.inl
  | [], ss, h => by
    cases h
    rfl
  | .inl s :: r, ss, h => by
    have h' : (intKs r).map (s :: ·) = some ss := h
    cases hr : intKs r with
    | none => rw [hr] at h'; cases h'
    | some q =>
      rw [hr] at h'
      cases h'
      rw [intKs_eq hr]
      rfl
  | .inr s :: r, ss, h => by cases h
theorem ok_sorted (w : WS G H fs) (r : RepL K ct G H ds vs fs) (h : fSorted ds = some d) (q : Wants K ct G H fs d Q) : rSortedZ K vs H Q := by
  unfold fSorted at h
  split at h
  · rename_i m l
    obtain ⟨v, rfl, rv⟩ := r.one
    obtain ⟨a, xs, f', rfl, e, rl, _, _⟩ := rv.lst_of w.le
    cases hi : D.ints l with
    | none =>
      rw [hi] at h
      simp only at h
      cases hs : D.strs l with
      | none => rw [hs] at h; cases h
      | some ss =>
        rw [hs] at h
        simp only [Option.bind_some] at h
        split at h
        · rename_i hl
          cases h
          obtain ⟨rfl, _⟩ := strs_rep hs rl
          refine .inl (.inr (.inl ⟨a, ss, rfl, e, hl, fun ys p hp hs hf => ?_⟩))
          have e2 := str_one (hp.trans (sortStr_perm ss).symm) (sortedS_pair hs) (sortStr_sorted ss)
          subst e2
          exact Wants.newL (gs := []) w (repL_strs G H _) (fun a m => by cases m) List.nodup_nil q p hf
        · cases h
    | some ns =>
      rw [hi] at h
      cases h
      obtain ⟨rfl, _⟩ := ints_rep hi rl
      refine .inl (.inl ⟨a, ns, rfl, e, fun ms p hp hs hf => ?_⟩)
      have e2 := sorted_one (hp.trans (sortI_perm ns).symm) hs (sortI_sorted ns)
      subst e2
      exact Wants.newL (gs := []) w (repL_ints G H _) (fun a m => by cases m) List.nodup_nil q p hf
  · rename_i m ks l
    obtain ⟨v, rfl, rv⟩ := r.one
    obtain ⟨a, xs, f', rfl, e, ll, rl, s1, n1⟩ := rv.dct_of w.le
    cases hs : strKs ks with
    | none =>
      rw [hs] at h
      simp only at h
      cases hi : intKs ks with
      | none => rw [hi] at h; cases h
      | some ns =>
        rw [hi] at h
        simp only [Option.bind_some] at h
        split at h
        · rename_i hl
          cases h
          refine .inr ⟨a, _, ns, rfl, e, ?_, hl, fun ys p hp hs' hf => ?_⟩
          · rw [← intKs_eq hi, List.map_fst_zip]
            rw [rl.length]
            omega
          · have e2 := sorted_one (hp.trans (sortI_perm ns).symm) hs' (sortI_sorted ns)
            subst e2
            exact Wants.newL (gs := []) w (repL_ints G H _) (fun a m => by cases m) List.nodup_nil q p hf
        · cases h
    | some ss =>
      rw [hs] at h
      simp only at h
      split at h
      · rename_i hl
        cases h
        refine .inl (.inr (.inr ⟨a, _, ss, rfl, e, ?_, hl, fun ys p hp hs' hf => ?_⟩))
        · rw [← strKs_eq hs, List.map_fst_zip]
          rw [rl.length]
          omega
        · have e2 := str_one (hp.trans (sortStr_perm ss).symm) (sortedS_pair hs') (sortStr_sorted ss)
          subst e2
          exact Wants.newL (gs := []) w (repL_strs G H _) (fun a m => by cases m) List.nodup_nil q p hf
      · cases h
  · cases h
theorem ok_int (w : WS G H fs) (r : RepL K ct G H ds vs fs) (h : fInt ds = some d) (q : Wants K ct G H fs d Q) : rIntQ vs H Q := by
  unfold fInt at h
  split at h
  · cases h
    rw [one_int r]
    exact .inl (.inl ⟨_, rfl, q.int w⟩)
  · cases h
    obtain ⟨v, rfl, ⟨rfl, _⟩⟩ := r.one
    exact .inl (.inr ⟨_, rfl, q.int w⟩)
  · rename_i a
    split at h
    · rename_i n hn
      split at h
      · rename_i hl
        cases h
        obtain ⟨v, rfl, ⟨rfl, _⟩⟩ := r.one
        exact .inr ⟨a, n, rfl, hn, hl, q.int w⟩
      · cases h
    · cases h
  · cases h
theorem ok_str (w : WS G H fs) (r : RepL K ct G H ds vs fs) (h : fStr ds = some d) (q : Wants K ct G H fs d Q) : ∃ i, vs = [.int i] ∧ i.natAbs.log2 < 1920 ∧ Q (.str (toString i)) H := by
  unfold fStr at h
  split at h
  · split at h
    · rename_i hl
      cases h
      rw [one_int r]
      exact ⟨_, rfl, hl, q.str w⟩
    · cases h
  · cases h
theorem keyD_rep (G H : Hp) : ∀ ks : List Key, RepL K ct G H (ks.map keyD) (ks.map kV) []
  | [] => ⟨rfl, rfl⟩
  | .inl i :: ks => ⟨.int i, _, [], [], rfl, rfl, ⟨rfl, rfl⟩, keyD_rep G H ks⟩
  | .inr i :: ks => ⟨.str i, _, [], [], rfl, rfl, ⟨rfl, rfl⟩, keyD_rep G H ks⟩
theorem zip_keys {ks : List Key} : ∀ {xs : List V}, ks.length = xs.length → ((ks.zip xs).map fun kv => kV kv.1) = ks.map kV := by
  induction ks with
  | nil => intro xs _; rfl
  | cons k ks ih =>
    intro xs h
    cases xs with
    | nil => cases h
    | cons x xs => rw [List.zip_cons_cons, List.map_cons, List.map_cons, ih (by simpa using h)]
theorem ok_list (w : WS G H fs) (r : RepL K ct G H ds vs fs) (h : fList ds = some d) (q : Wants K ct G H fs d Q) : rListQ K vs H Q := by
  unfold fList at h
  split at h
  · cases h
    obtain ⟨v, rfl, rv⟩ := r.one
    obtain ⟨a, xs, f', rfl, e, rl, s1, n1⟩ := rv.lst_of w.le
    exact .inl ⟨a, xs, rfl, .inl e, Wants.newL w rl s1 (n1 w.nd) q⟩
  · cases h
    obtain ⟨v, rfl, rv⟩ := r.one
    obtain ⟨a, xs, rfl, e, rl⟩ := rv.tup_of w.le
    exact .inl ⟨a, xs, rfl, .inr e, Wants.newL w rl (fun _ m => m) w.nd q⟩
  · cases h
    obtain ⟨v, rfl, rv⟩ := r.one
    obtain ⟨a, xs, f', rfl, e, ll, rl, s1, n1⟩ := rv.dct_of w.le
    refine .inr ⟨a, _, rfl, e, ?_⟩
    rw [zip_keys (by rw [rl.length]; exact ll)]
    exact Wants.newL (gs := []) w (keyD_rep G H _) (fun a m => by cases m) List.nodup_nil q
  · cases h
theorem merge_new : ∀ (kvs acc : List (Key × V)), ((acc ++ kvs).map (·.1)).Nodup → mergeK acc kvs = acc ++ kvs
  | [], acc, _ => by simp [mergeK]
  | (k, v) :: kvs, acc, nd => by
    have e : acc ++ (k, v) :: kvs = (acc ++ [(k, v)]) ++ kvs := by simp
    have hn : ¬ (acc.any fun kv => decide (kv.1 = k)) = true := fun h => by
      obtain ⟨q, hq, hk⟩ := List.any_eq_true.mp h
      have hk' : q.1 = k := of_decide_eq_true hk
      rw [List.map_append, List.nodup_append] at nd
      exact nd.2.2 q.1 (List.mem_map.mpr ⟨q, hq, rfl⟩) k (by simp) hk'
    show mergeK (L2.putK acc k v) kvs = _
    unfold L2.putK
    rw [if_neg hn, e]
    exact merge_new kvs _ (by rw [← e]; exact nd)
theorem pairs_rep (le : Le G H) : ∀ {l : List D} {xs : List V} {q : List Key × List D}, RepL K ct G H l xs [] → pairsD l = some q → ∃ (ps : List Addr) (kvs : List (Key × V)), xs = ps.map V.ref ∧ Paired (fun p kv => SqT K H p [kV kv.1, kv.2]) ps kvs ∧ kvs.map (·.1) = q.1 ∧ RepL K ct G H q.2 (kvs.map (·.2)) []
  | [], xs, q, r, h => by
    cases h
    obtain ⟨rfl, _⟩ := r
    exact ⟨[], [], rfl, .nil, rfl, rfl, rfl⟩
  | d :: l, xs, q, r, h => by
    unfold pairsD at h
    split at h
    · rename_i e
      cases e
    · rename_i k v l' e
      cases e
      obtain ⟨x, vs, f, g, rfl, e0, rx, rs⟩ := r
      obtain ⟨rfl, rfl⟩ := List.append_eq_nil_iff.mp e0.symm
      cases hk : keyOf k with
      | none => rw [hk] at h; cases h
      | some kk =>
        rw [hk] at h
        simp only [Option.bind_some] at h
        cases hq : pairsD l with
        | none => rw [hq] at h; cases h
        | some q' =>
          rw [hq] at h
          cases h
          obtain ⟨ps, kvs, rfl, e1, e2, e3⟩ := pairs_rep le rs hq
          obtain ⟨a, ys, rfl, e4, rl⟩ := rx.tup_of le
          obtain ⟨y, ys1, f1, g1, rfl, n1, ry, rys⟩ := rl
          obtain ⟨rfl, rfl⟩ := List.append_eq_nil_iff.mp n1.symm
          obtain ⟨z, ys2, f2, g2, rfl, n2, rz, rys2⟩ := rys
          obtain ⟨rfl, rfl⟩ := List.append_eq_nil_iff.mp n2.symm
          obtain ⟨rfl, _⟩ := rys2
          have := key_v ry hk
          subst this
          exact ⟨a :: ps, (kk, z) :: kvs, rfl, .cons e4 e1, by rw [List.map_cons, e2], _, _, [], [], rfl, rfl, rz, e3⟩
    · cases h
theorem ok_dict (w : WS G H fs) (r : RepL K ct G H ds vs fs) (h : fDict ds = some d) (q : Wants K ct G H fs d Q) : rDictQ K vs H Q := by
  unfold fDict at h
  split at h
  · rename_i m ks l
    cases h
    obtain ⟨v, rfl, rv⟩ := r.one
    obtain ⟨a, xs, f', rfl, e, ll, rl, s1, n1⟩ := rv.dct_of w.le
    refine .inl ⟨a, _, rfl, e, fun p hp => ?_⟩
    have w' := w.sub s1 (n1 w.nd)
    have x := ((XT.refl w).drop s1 (n1 w.nd)).trans (XT.new (o := .dK (ks.zip xs)) w' hp)
    exact q _ _ _ _ x ⟨p, xs, f', rfl, rfl, upd_same, ll, rl.mono (Le.refl G) fun a m => upd_ne fun e => w'.hn a m (by rw [e]; exact hp)⟩
  · rename_i m l
    cases hp : pairsD l with
    | none => rw [hp] at h; cases h
    | some t =>
      rw [hp] at h
      simp only [Option.bind_some] at h
      split at h
      · rename_i c
        cases h
        obtain ⟨v, rfl, rv⟩ := r.one
        obtain ⟨a, xs, f', rfl, e, rl, s1, n1⟩ := rv.lst_of w.le
        have := rl.fz c.2
        subst this
        obtain ⟨ps, kvs, rfl, e1, e2, e3⟩ := pairs_rep w.le rl hp
        refine .inr ⟨a, ps, kvs, rfl, e, e1, fun p hpn => ?_⟩
        rw [merge_new kvs [] (by rw [List.nil_append, e2]; exact c.1)]
        have w' := w.sub (gs := []) (fun b m => by cases m) List.nodup_nil
        have x := ((XT.refl w).drop (gs := []) (fun b m => by cases m) List.nodup_nil).trans (XT.new (o := .dK ([] ++ kvs)) w' hpn)
        have hz : t.1.zip (kvs.map (·.2)) = [] ++ kvs := by
          rw [← e2, List.nil_append]
          clear e1 e2 e3 x
          induction kvs with
          | nil => rfl
          | cons z kvs ih => simp [ih]
        refine q _ _ _ _ x ⟨p, kvs.map (·.2), [], rfl, rfl, by rw [upd_same, hz], ?_, e3.mono (Le.refl G) fun a m => by cases m⟩
        have := e3.length
        rw [← e2]
        simpa using this
      · cases h
  · cases h
theorem ok_dnew (w : WS G H fs) (r : RepL K ct G H ds vs fs) (h : fDnew ds = some d) (q : Wants K ct G H fs d Q) : rDnewQ vs H Q := by
  unfold fDnew at h
  split at h
  · cases h
    obtain ⟨rfl, rfl⟩ := r
    refine ⟨rfl, fun p hp => ?_⟩
    have x := XT.new (o := .dK []) w hp
    exact q _ _ _ _ x ⟨p, [], [], rfl, rfl, upd_same, rfl, rfl, rfl⟩
  · cases h
/-! ### isinstance -/
theorem sqL_ty {a : Addr} {xs : List V} (e : SqL K H a xs) : TyX K H (.ref a) (.type "list") := by
  rcases e with (e | ⟨o, e⟩) | ⟨o, its, n, hk, hc, _⟩
  · exact .base (.lst e)
  · exact .base (.frz e)
  · exact .kList hk hc
theorem sqT_ty {a : Addr} {xs : List V} (e : SqT K H a xs) : TyX K H (.ref a) (.type "tuple") := by
  rcases e with (e | ⟨o, e⟩) | ⟨o, its, n, hk, hc, _⟩
  · exact .base (.tup e)
  · exact .fTuple e
  · exact .kTuple hk hc
theorem ty_of {v : V} {f : List Addr} {t : String} (le : Le G H) (r : RepD K ct G H d v f) (h : d.tyName = some t) : TyX K H v (.type t) := by
  cases d with
  | non => obtain ⟨rfl, _⟩ := r; cases h; exact .base .non
  | bl b => obtain ⟨rfl, _⟩ := r; cases h; exact .base (.bl _)
  | int b => obtain ⟨rfl, _⟩ := r; cases h; exact .base (.int _)
  | str b => obtain ⟨rfl, _⟩ := r; cases h; exact .base (.str _)
  | tup l =>
    cases h
    obtain ⟨a, xs, rfl, e, _⟩ := r.tup_of le
    exact sqT_ty e
  | lst m l =>
    cases h
    obtain ⟨a, xs, f', rfl, e, _⟩ := r.lst_of le
    exact sqL_ty e
  | dct m ks l =>
    cases h
    obtain ⟨a, xs, f', rfl, e, _⟩ := r.dct_of le
    rcases e with e | ⟨o, e⟩
    · exact .base (.dK e)
    · exact .fDict e
  | ins m c ks l => cases h
  | exn c ks l => cases h
theorem kit_ty {a b : String} {k : Bool} (h : tySub a b = some k) : PySem.W.kitOne K (.type a) (.type b) = some k := by
  unfold tySub at h
  split at h
  · rename_i e
    cases h
    subst e
    unfold PySem.W.kitOne
    rw [if_pos (beq_self_eq_true _)]
  · split at h
    · rename_i e
      cases h
      obtain ⟨rfl, rfl⟩ := e
      rfl
    · split at h
      · rename_i n1 n2 e
        cases h
        obtain ⟨h1, h2⟩ := e
        rcases h1 with rfl | rfl | rfl | rfl | rfl | rfl | rfl <;> rcases h2 with rfl | rfl | rfl | rfl | rfl | rfl <;> first | rfl | exact absurd rfl n1 | exact absurd ⟨rfl, rfl⟩ n2
      · cases h
/-- what the classes are known by -/
structure Cf (K : PySem.W.Frag) (ct : Str → Option Addr) (sub : Str → Str → Option Bool) : Prop where
  cl : ∀ c C, ct c = some C → isX c = false → Cls K C
  ha : ∀ c C, ct c = some C → isX c = false → PySem.W.findIn K (.ref C) "__class__" = some (some (.builtin "object.__class__"))
  hn : PySem.W.specialIn K (.builtin "object.__class__") "__get__" = some (some (.builtin "getset_descriptor.__get__"))
  ht : PySem.W.takesIn K (.builtin "object.__class__") = some true
  hm : ∀ c C, ct c = some C → isX c = false → PySem.W.mroIn K C (.type "object") = some true
  kit : ∀ b c B C k, ct b = some B → sub b c = some k → ct c = some C → PySem.W.kitOne K (.ref B) (.ref C) = some k
  is : ∀ b c k, sub b c = some k → ∃ C, ct c = some C
  xc : ∀ c C, ct c = some C → isX c = true → ExcC K C
  xv : ∀ c C, ct c = some C → isX c = true → PySem.W.kitOne K (.ref C) (.type "ValueError") = some true
theorem ok_isT {t : String} {sub : Str → Str → Option Bool} (cf : Cf K ct sub) (w : WS G H fs) (r : RepL K ct G H ds vs fs) (h : fIsT t ds = some d) (q : Wants K ct G H fs d Q) : rIsTQ K ct t vs H Q := by
  unfold fIsT at h
  split at h
  · rename_i b fns l
    split at h
    · rename_i hx
      obtain ⟨hx, rfl⟩ := hx
      obtain ⟨v, rfl, rv⟩ := r.one
      obtain ⟨e0, a, B, dd, xs, rfl, hb, s, s2, ll, rl⟩ := rv
      cases h
      exact .inr ⟨a, B, .ty "ValueError", .type "ValueError", dd, true, b, rfl, .ty _, w.le.rd _ _ s, ⟨_, w.le.xd s2⟩, hb, hx, cf.xv b B hb hx, q.bl w⟩
    · cases h
  · rename_i x _
    obtain ⟨v, rfl, rv⟩ := r.one
    cases ht : x.tyName with
    | none => rw [ht] at h; cases h
    | some a =>
      rw [ht] at h
      have h' : (tySub a t).map D.bl = some d := h
      cases hs : tySub a t with
      | none => rw [hs] at h'; cases h'
      | some b =>
        rw [hs] at h'
        cases h'
        exact .inl ⟨v, .ty t, .type a, .type t, b, rfl, .ty t, ty_of w.le rv ht, kit_ty hs, q.bl w⟩
  · cases h
theorem ok_isC {sub : Str → Str → Option Bool} {c : Str} (cf : Cf K ct sub) (w : WS G H fs) (r : RepL K ct G H ds vs fs) (h : fIsC sub c ds = some d) (q : Wants K ct G H fs d Q) : rIsCQ K ct c vs H Q := by
  unfold fIsC at h
  split at h
  · rename_i m b fns l
    split at h
    · cases h
    · rename_i hx
      have hx' : isX b = false := by simpa using hx
      obtain ⟨v, rfl, rv⟩ := r.one
      obtain ⟨a, B, dx, xs, f', rfl, hb, e, ll, rl, _, _⟩ := rv.ins_of w.le
      cases hs : sub b c with
      | none => rw [hs] at h; cases h
      | some k =>
        rw [hs] at h
        cases h
        obtain ⟨C, hC⟩ := cf.is b c k hs
        show rIs2 K ct ([_] ++ [.ref ((ct c).getD 0)]) H Q
        rw [hC]
        exact .inl ⟨_, .ref C, .ref B, .ref C, k, rfl, .own C, .base (.ins e (cf.cl b B hb hx') (cf.ha b B hb hx') cf.hn cf.ht (cf.hm b B hb hx')), cf.kit b c B C k hb hs hC, q.bl w⟩
  · rename_i b fns l
    split at h
    · rename_i hx
      obtain ⟨v, rfl, rv⟩ := r.one
      obtain ⟨e0, a, B, dd, xs, rfl, hb, s, s2, ll, rl⟩ := rv
      cases hs : sub b c with
      | none => rw [hs] at h; cases h
      | some k =>
        rw [hs] at h
        cases h
        obtain ⟨C, hC⟩ := cf.is b c k hs
        show rIs2 K ct ([_] ++ [.ref ((ct c).getD 0)]) H Q
        rw [hC]
        exact .inr ⟨a, B, .ref C, .ref C, dd, k, b, rfl, .own C, w.le.rd _ _ s, ⟨_, w.le.xd s2⟩, hb, hx, cf.kit b c B C k hb hs hC, q.bl w⟩
    · cases h
  · cases h
/-! ### texts, dicts, places -/
theorem lim16 {n : Nat} (h : n < lim) : n ≤ 16777216 := Nat.le_of_lt (Nat.lt_of_lt_of_le h (by decide))
theorem ok_join (w : WS G H fs) (r : RepL K ct G H ds vs fs) (h : fJoin ds = some d) (q : Wants K ct G H fs d Q) : rJoinQ K vs H Q := by
  unfold fJoin at h
  split at h
  · rename_i a m l
    obtain ⟨v, u, f, g, rfl, rfl, ⟨rfl, rfl⟩, ru⟩ := r.two
    obtain ⟨p, xs, f', rfl, e, rl, _, _⟩ := ru.lst_of w.le
    cases hs : D.strs l with
    | none => rw [hs] at h; cases h
    | some ys =>
      rw [hs] at h
      have h' : (if (ys.map (·.length)).sum + ys.length * a.length < lim then some (D.str (Txt.join a ys)) else none) = some d := h
      split at h'
      · rename_i hl
        cases h'
        obtain ⟨rfl, _⟩ := strs_rep hs rl
        exact ⟨a, p, ys, rfl, .inl e, lim16 hl, q.str w⟩
      · cases h'
  · cases h
theorem ok_get1 (w : WS G H fs) (r : RepL K ct G H ds vs fs) (h : fGet1 ds = some d) (q : Wants K ct G H fs d Q) : rGet1Q vs H Q := by
  unfold fGet1 at h
  split at h
  · rename_i m ks l k
    obtain ⟨v, u, f, g, rfl, rfl, rv, rk⟩ := r.two
    obtain ⟨a, xs, f', rfl, e, ll, rl, s1, n1⟩ := rv.dct_of w.le
    cases hk : keyOf k with
    | none => rw [hk] at h; cases h
    | some kk =>
      rw [hk] at h
      have ev := key_v rk hk
      subst ev
      have h' : (match ks.findIdx? fun j => decide (j = kk) with
        | some i => l[i]?
        | none => some .non) = some d := h
      refine ⟨a, _, _, rfl, .inl ⟨_, e⟩, .inl ⟨_, kk, e, rfl, rfl⟩, ?_⟩
      rw [valV_ix (by rw [rl.length]; exact ll)]
      cases hj : ks.findIdx? fun j => decide (j = kk) with
      | none =>
        rw [hj] at h'
        cases h'
        exact q.non w
      | some j =>
        rw [hj] at h'
        obtain ⟨v1, g1, h1, h2, h3, h4⟩ := rl.pick h'
        show Q ((xs[j]?).getD .non) H
        rw [h1]
        exact Wants.sub w h2 (fun b m => List.mem_append_left _ (s1 b (h3 b m))) (h4 (n1 (List.nodup_append.mp w.nd).1)) q
  · cases h
theorem ok_get2 (w : WS G H fs) (r : RepL K ct G H ds vs fs) (h : fGet2 ds = some d) (q : Wants K ct G H fs d Q) : rGet2Q vs H Q := by
  unfold fGet2 at h
  split at h
  · rename_i m ks l k z
    obtain ⟨v, u, x, f, g, g2, rfl, rfl, rv, rk, rz⟩ := r.three
    obtain ⟨a, xs, f', rfl, e, ll, rl, s1, n1⟩ := rv.dct_of w.le
    cases hk : keyOf k with
    | none => rw [hk] at h; cases h
    | some kk =>
      rw [hk] at h
      have ev := key_v rk hk
      subst ev
      have h' : (match ks.findIdx? fun j => decide (j = kk) with
        | some i => l[i]?
        | none => some z) = some d := h
      refine ⟨a, _, _, _, rfl, .inl ⟨_, e⟩, .inl ⟨_, kk, e, rfl, rfl⟩, ?_⟩
      rw [valV_ix (by rw [rl.length]; exact ll)]
      cases hj : ks.findIdx? fun j => decide (j = kk) with
      | none =>
        rw [hj] at h'
        cases h'
        exact Wants.sub w rz (fun b m => by simp [m]) (List.nodup_append.mp (List.nodup_append.mp w.nd).2.1).2.1 q
      | some j =>
        rw [hj] at h'
        obtain ⟨v1, g1, h1, h2, h3, h4⟩ := rl.pick h'
        show Q ((xs[j]?).getD x) H
        rw [h1]
        exact Wants.sub w h2 (fun b m => List.mem_append_left _ (s1 b (h3 b m))) (h4 (n1 (List.nodup_append.mp w.nd).1)) q
  · cases h
theorem repL_get {l : List D} {xs : List V} {f : List Addr} (rl : RepL K ct G H l xs f) {m : Nat} {z : V} (h : xs[m]? = some z) : ∃ y g, l[m]? = some y ∧ RepD K ct G H y z g := by
  have hm : m < l.length := by
    have := (List.getElem?_eq_some_iff.mp h).1
    rw [rl.length] at this
    exact this
  obtain ⟨v, g, h1, h2, _⟩ := rl.pick (List.getElem?_eq_getElem hm)
  rw [h] at h1
  cases h1
  exact ⟨_, g, List.getElem?_eq_getElem hm, h2⟩
theorem ok_index (w : WS G H fs) (r : RepL K ct G H ds vs fs) (h : fIndex ds = some d) (q : Wants K ct G H fs d Q) : rIndexQ K vs H Q := by
  unfold fIndex at h
  split at h
  · split at h
    · rename_i m l x hf
      rw [Bool.and_eq_true] at hf
      obtain ⟨v, u, f, g, rfl, rfl, rv, ru⟩ := r.two
      obtain ⟨a, xs, f', rfl, e, rl, _, _⟩ := rv.lst_of w.le
      cases hj : l.findIdx? fun y => D.eqb y x with
      | none => rw [hj] at h; cases h
      | some j =>
        rw [hj] at h
        cases h
        obtain ⟨hlt, hp, hno⟩ := List.findIdx?_eq_some_iff_getElem.mp hj
        obtain ⟨z, g1, h1, h2, _⟩ := rl.pick (List.getElem?_eq_getElem hlt)
        have fl : ∀ y ∈ l, y.flat = true := List.all_eq_true.mp hf.2
        refine ⟨_, _, rfl, a, xs, u, j, z, rfl, rfl, e, flat_v ru hf.1, flat_all rl hf.2, h1, ?_, fun m' z' hm hz => ?_, q.int w⟩
        · rw [flat_eq h2 ru (fl _ (List.getElem_mem _)) hf.1]
          exact hp
        · obtain ⟨y, g2, k1, k2⟩ := repL_get rl hz
          have hml := (List.getElem?_eq_some_iff.mp k1)
          rw [flat_eq k2 ru (fl y (List.mem_of_getElem? k1)) hf.1]
          have := hno m' hm
          rw [← hml.2]
          simpa using this
    · cases h
  · cases h
theorem RepL.rev0 : ∀ {l : List D} {xs : List V}, RepL K ct G H l xs [] → RepL K ct G H l.reverse xs.reverse []
  | [], _, ⟨rfl, _⟩ => ⟨rfl, rfl⟩
  | d :: l, _, ⟨v, vs, f, g, e, e0, r, rs⟩ => by
    obtain ⟨rfl, rfl⟩ := List.append_eq_nil_iff.mp e0.symm
    subst e
    rw [List.reverse_cons, List.reverse_cons]
    have := (RepL.rev0 rs).append (show RepL K ct G H [d] [v] [] from ⟨v, [], [], [], rfl, rfl, r, rfl, rfl⟩)
    exact this
theorem ok_rev (w : WS G H fs) (r : RepL K ct G H ds vs fs) (h : fRev ds = some d) (q : Wants K ct G H fs d Q) : r1q (rRev K) vs H Q := by
  unfold fRev at h
  split at h
  · split at h
    · rename_i m l hz
      cases h
      obtain ⟨v, rfl, rv⟩ := r.one
      obtain ⟨a, xs, f', rfl, e, rl, s1, n1⟩ := rv.lst_of w.le
      have : f' = [] := RepL.fz rl hz
      subst this
      exact ⟨_, rfl, a, xs, rfl, e, Wants.newL (gs := []) w (RepL.rev0 rl) (fun a m => by cases m) List.nodup_nil q⟩
    · cases h
  · cases h
theorem ok_lenset (w : WS G H fs) (r : RepL K ct G H ds vs fs) (h : fLenset ds = some d) (q : Wants K ct G H fs d Q) : r1q (rLenSetG K) vs H Q := by
  unfold fLenset at h
  split at h
  · rename_i m l
    obtain ⟨v, rfl, rv⟩ := r.one
    obtain ⟨a, xs, f', rfl, e, rl, _, _⟩ := rv.lst_of w.le
    cases hi : D.ints l with
    | none => rw [hi] at h; cases h
    | some ns =>
      rw [hi] at h
      have h' : (if ns.length < 63 then some (D.int (setLen ns : Nat)) else none) = some d := h
      split at h'
      · rename_i hlt
        cases h'
        obtain ⟨rfl, _⟩ := ints_rep hi rl
        exact ⟨_, rfl, a, ns, rfl, e, hlt, q.int w⟩
      · cases h'
  · cases h
theorem rep_rg (G H : Hp) (a b : Int) : RepL K ct G H (rgD a b) (rgV a b) [] := by
  unfold rgD rgV
  generalize List.range (b - a).toNat = l
  induction l with
  | nil => exact ⟨rfl, rfl⟩
  | cons i l ih => exact ⟨_, _, [], [], rfl, rfl, ⟨rfl, rfl⟩, ih⟩
theorem rgLOk_ok {a b : Int} (h : rgLOk a b = true) : RgOk a b := by
  unfold rgLOk at h
  simp only [Bool.and_eq_true, decide_eq_true_eq] at h
  exact RgOk.of_le h.1.1.1 h.2 h.1.1.2 h.1.2
theorem ok_rngL1 (w : WS G H fs) (r : RepL K ct G H ds vs fs) (h : fRngL1 ds = some d) (q : Wants K ct G H fs d Q) : ∃ b : Int, vs = [.int b] ∧ rRngL 0 b H Q := by
  unfold fRngL1 at h
  split at h
  · split at h
    · rename_i b hok
      cases h
      obtain ⟨v, rfl, ⟨rfl, _⟩⟩ := r.one
      exact ⟨b, rfl, rgLOk_ok hok, Wants.newL (gs := []) w (rep_rg G H 0 b) (fun a m => by cases m) List.nodup_nil q⟩
    · cases h
  · cases h
theorem ok_rngL2 (w : WS G H fs) (r : RepL K ct G H ds vs fs) (h : fRngL2 ds = some d) (q : Wants K ct G H fs d Q) : ∃ a b : Int, vs = [.int a, .int b] ∧ rRngL a b H Q := by
  unfold fRngL2 at h
  split at h
  · split at h
    · rename_i a b hok
      cases h
      obtain ⟨v, u, f, g, rfl, _, ⟨rfl, _⟩, ⟨rfl, _⟩⟩ := r.two
      exact ⟨a, b, rfl, rgLOk_ok hok, Wants.newL (gs := []) w (rep_rg G H a b) (fun a m => by cases m) List.nodup_nil q⟩
    · cases h
  · cases h
/-! ### one of several classes, displays, default=, more of texts -/
theorem any_kit {sub : Str → Str → Option Bool} (cf : Cf K ct sub) {b : Str} {B : Addr} (hb : ct b = some B) : ∀ (cs : List Str) (k : Bool), subAny sub b cs = some k → PySem.W.kitAny K (.ref B) (cs.map fun c => Value.ref ((ct c).getD 0)) = some k
  | [], k, h => h
  | c :: cs, k, h => by
    unfold subAny at h
    cases h1 : sub b c with
    | none => rw [h1] at h; cases h
    | some x =>
      cases h2 : subAny sub b cs with
      | none => rw [h1, h2] at h; cases h
      | some y =>
        rw [h1, h2] at h
        cases h
        obtain ⟨C, hC⟩ := cf.is b c x h1
        have e := cf.kit b c B C x hb h1 hC
        have e2 := any_kit cf hb cs y h2
        rw [List.map_cons, hC]
        show PySem.W.kitAny K (.ref B) (.ref C :: _) = _
        unfold PySem.W.kitAny
        rw [e]
        cases x with
        | true => rfl
        | false => exact e2
theorem ok_isCs {sub : Str → Str → Option Bool} {cs : List Str} (cf : Cf K ct sub) (w : WS G H fs) (r : RepL K ct G H ds vs fs) (h : fIsCs sub cs ds = some d) (q : Wants K ct G H fs d Q) : rIsXs K ct cs vs H Q := by
  unfold fIsCs at h
  split at h
  · rename_i b fns l
    split at h
    · rename_i hx
      obtain ⟨v, rfl, rv⟩ := r.one
      obtain ⟨e0, a, B, dd, xs, rfl, hb, s, s2, ll, rl⟩ := rv
      cases hs : subAny sub b cs with
      | none => rw [hs] at h; cases h
      | some k =>
        rw [hs] at h
        cases h
        refine ⟨a, B, dd, k, b, rfl, w.le.rd _ _ s, ⟨_, w.le.xd s2⟩, hb, hx, any_kit cf hb cs k hs, fun p hp => ?_⟩
        have w' := w.sub (gs := []) (fun a m => by cases m) List.nodup_nil
        have x := ((XT.refl w).drop (gs := []) (fun a m => by cases m) List.nodup_nil).trans (XT.newG (o := .tup (cs.map fun c => V.ref ((ct c).getD 0))) w' hp)
        exact q _ _ _ _ x ⟨rfl, rfl⟩
    · cases h
  · cases h
theorem kvs_rep : ∀ {ds : List D} {q : List Key × List D} {vs : List V} {f : List Addr}, kvsD ds = some q → RepL K ct G H ds vs f → ∃ kvs : List (Key × V), vs = flatKV kvs ∧ kvs.map (·.1) = q.1 ∧ RepL K ct G H q.2 (kvs.map (·.2)) f
  | [], q, vs, f, h, r => by
    cases h
    obtain ⟨rfl, rfl⟩ := r
    exact ⟨[], rfl, rfl, rfl, rfl⟩
  | [_], q, vs, f, h, r => by cases h
  | k :: v :: ds, q, vs, f, h, r => by
    unfold kvsD at h
    cases hk : keyOf k with
    | none => rw [hk] at h; cases h
    | some kk =>
      rw [hk] at h
      have h' : (kvsD ds).map (fun q => (kk :: q.1, v :: q.2)) = some q := h
      cases hq : kvsD ds with
      | none => rw [hq] at h'; cases h'
      | some q2 =>
        rw [hq] at h'
        cases h'
        obtain ⟨x, r1, f1, g1, rfl, rfl, rk, r2⟩ := r
        obtain ⟨y, r3, f2, g2, rfl, rfl, rv, r4⟩ := r2
        obtain ⟨kvs, rfl, e, rl⟩ := kvs_rep hq r4
        have ev := key_v rk hk
        have ef := key_f rk hk
        subst ev ef
        exact ⟨(kk, y) :: kvs, rfl, by rw [List.map_cons, e], y, _, f2, g2, rfl, rfl, rv, rl⟩
theorem ok_dkv (w : WS G H fs) (r : RepL K ct G H ds vs fs) (h : fDkv ds = some d) (q : Wants K ct G H fs d Q) : rDkv vs H Q := by
  unfold fDkv at h
  cases hk : kvsD ds with
  | none => rw [hk] at h; cases h
  | some p =>
    rw [hk] at h
    have h' : (if p.1.Nodup ∧ 0 < p.1.length ∧ p.1.length ≤ 15 then some (D.dct true p.1 p.2) else none) = some d := h
    split at h'
    · rename_i c
      cases h'
      obtain ⟨kvs, rfl, e, rl⟩ := kvs_rep hk r
      have hl : kvs.length = p.1.length := by rw [← e, List.length_map]
      refine ⟨kvs, rfl, by rw [e]; exact c.1, by rw [hl]; exact c.2.1, by rw [hl]; exact c.2.2, fun a ha => ?_⟩
      have x := XT.new (o := .dK kvs) w ha
      have ez : p.1.zip (kvs.map (·.2)) = kvs := by
        rw [← e]
        clear e rl hl c hk q x r
        induction kvs with
        | nil => rfl
        | cons z kvs ih => rw [List.map_cons, List.map_cons, List.zip_cons_cons, ih]
      have hlen : p.1.length = p.2.length := by
        rw [← hl, ← rl.length, List.length_map]
      exact q _ _ _ _ x ⟨a, kvs.map (·.2), fs, rfl, rfl, by rw [ez]; exact upd_same, hlen, rl.mono (Le.refl G) fun b m => upd_ne fun z => w.hn b m (by rw [z]; exact ha)⟩
    · cases h'
theorem ok_count (w : WS G H fs) (r : RepL K ct G H ds vs fs) (h : fCount ds = some d) (q : Wants K ct G H fs d Q) : rHd (rCountQ K) vs H Q := by
  unfold fCount at h
  split at h
  · rename_i m l k
    obtain ⟨v, u, f, g, rfl, rfl, rv, ⟨rfl, _⟩⟩ := r.two
    obtain ⟨a, xs, f', rfl, e, rl, _, _⟩ := rv.lst_of w.le
    cases hi : D.ints l with
    | none => rw [hi] at h; cases h
    | some ns =>
      rw [hi] at h
      cases h
      obtain ⟨rfl, _⟩ := ints_rep hi rl
      exact ⟨_, _, rfl, a, ns, k, rfl, rfl, e, q.int w⟩
  · cases h
theorem ok_maxD (w : WS G H fs) (r : RepL K ct G H ds vs fs) (h : fMaxD ds = some d) (q : Wants K ct G H fs d Q) : rMaxD K vs H Q := by
  unfold fMaxD at h
  split at h
  · rename_i m l z
    obtain ⟨v, u, f, g, rfl, rfl, rv, ru⟩ := r.two
    obtain ⟨a, xs, f', rfl, e, rl, _, _⟩ := rv.lst_of w.le
    split at h
    · rename_i hi
      split at h
      · cases h
        obtain ⟨rfl, _⟩ := ints_rep hi rl
        exact ⟨a, [], u, rfl, e, fun _ => Wants.sub w ru (fun b m => by simp [m]) (List.nodup_append.mp w.nd).2.1 q, fun m hm => by cases hm⟩
      · cases h
    · rename_i b rr hi
      cases h
      obtain ⟨rfl, _⟩ := ints_rep hi rl
      refine ⟨a, _, u, rfl, e, (fun z => nomatch z), fun x hx hy => ?_⟩
      obtain ⟨h1, h2⟩ := maxI_spec b rr
      have : x = maxI (b :: rr) := Int.le_antisymm (h2 x hx) (hy _ h1)
      rw [this]
      exact q.int w
    · cases h
  · cases h
theorem ok_minD (w : WS G H fs) (r : RepL K ct G H ds vs fs) (h : fMinD ds = some d) (q : Wants K ct G H fs d Q) : rMinD K vs H Q := by
  unfold fMinD at h
  split at h
  · rename_i m l z
    obtain ⟨v, u, f, g, rfl, rfl, rv, ru⟩ := r.two
    obtain ⟨a, xs, f', rfl, e, rl, _, _⟩ := rv.lst_of w.le
    split at h
    · rename_i hi
      split at h
      · cases h
        obtain ⟨rfl, _⟩ := ints_rep hi rl
        exact ⟨a, [], u, rfl, e, fun _ => Wants.sub w ru (fun b m => by simp [m]) (List.nodup_append.mp w.nd).2.1 q, fun m hm => by cases hm⟩
      · cases h
    · rename_i b rr hi
      cases h
      obtain ⟨rfl, _⟩ := ints_rep hi rl
      refine ⟨a, _, u, rfl, e, (fun z => nomatch z), fun x hx hy => ?_⟩
      obtain ⟨h1, h2⟩ := minI_spec b rr
      have : x = minI (b :: rr) := Int.le_antisymm (hy _ h1) (h2 x hx)
      rw [this]
      exact q.int w
    · cases h
  · cases h
theorem ok_split (w : WS G H fs) (r : RepL K ct G H ds vs fs) (h : fSplit ds = some d) (q : Wants K ct G H fs d Q) : rHd rSplitQ vs H Q := by
  unfold fSplit at h
  split at h
  · rename_i a b
    split at h
    · rename_i c
      cases h
      rw [two_str r]
      exact ⟨_, _, rfl, a, b, rfl, rfl, c.1, lim_line' c.2, Wants.newL (gs := []) w (repL_strs G H _) (fun a m => by cases m) List.nodup_nil q⟩
    · cases h
  · cases h
theorem ok_part (w : WS G H fs) (r : RepL K ct G H ds vs fs) (h : fPartition ds = some d) (q : Wants K ct G H fs d Q) : rHd rPartQ vs H Q := by
  unfold fPartition at h
  split at h
  · rename_i a b
    split at h
    · rename_i c
      cases h
      rw [two_str r]
      exact ⟨_, _, rfl, a, b, rfl, rfl, c.1, lim_line' c.2, Wants.newT (gs := []) (xs := [.str (Txt.partition a b).1, .str (Txt.partition a b).2.1, .str (Txt.partition a b).2.2]) w (repL_strs G H [(Txt.partition a b).1, (Txt.partition a b).2.1, (Txt.partition a b).2.2]) (fun a m => by cases m) List.nodup_nil q⟩
    · cases h
  · cases h
theorem ok_startsw (w : WS G H fs) (r : RepL K ct G H ds vs fs) (h : fStartsw ds = some d) (q : Wants K ct G H fs d Q) : rHd rStartQ vs H Q := by
  unfold fStartsw at h
  split at h
  · cases h
    rw [two_str r]
    exact ⟨_, _, rfl, _, _, rfl, rfl, q.bl w⟩
  · cases h
theorem ok_endsw (w : WS G H fs) (r : RepL K ct G H ds vs fs) (h : fEndsw ds = some d) (q : Wants K ct G H fs d Q) : rHd rEndQ vs H Q := by
  unfold fEndsw at h
  split at h
  · cases h
    rw [two_str r]
    exact ⟨_, _, rfl, _, _, rfl, rfl, q.bl w⟩
  · cases h
theorem ok_ljust (w : WS G H fs) (r : RepL K ct G H ds vs fs) (h : fLjust ds = some d) (q : Wants K ct G H fs d Q) : rHd rLjustQ vs H Q := by
  unfold fLjust at h
  split at h
  · rename_i a i
    split at h
    · rename_i c
      cases h
      obtain ⟨v, u, f, g, rfl, rfl, ⟨rfl, rfl⟩, ⟨rfl, rfl⟩⟩ := r.two
      exact ⟨_, _, rfl, a, i, rfl, rfl, c, q.str w⟩
    · cases h
  · cases h
theorem ok_slr (w : WS G H fs) (r : RepL K ct G H ds vs fs) (h : fSlr ds = some d) (q : Wants K ct G H fs d Q) : r1q (rRev K) vs H Q := ok_rev w r h q
/-! ### all of them -/
theorem ok_op {sub : Str → Str → Option Bool} (cf : Cf K ct sub) (o : POp) (w : WS G H fs) (r : RepL K ct G H ds vs fs) (h : opF sub o ds = some d) (q : Wants K ct G H fs d Q) : opR K ct o vs H Q := by
  cases o with
  | add => exact ok_add w r h q
  | sub => exact ok_sub w r h q
  | mul => exact ok_mul w r h q
  | mod => exact ok_mod w r h q
  | fdiv => exact ok_div w r h q
  | pow => exact ok_pow w r h q
  | shl => exact ok_shl w r h q
  | shr => exact ok_shr w r h q
  | band => exact ok_band w r h q
  | neg => exact ok_neg w r h q
  | eq => exact ok_eq w r h q
  | ne => exact ok_ne w r h q
  | lt => exact ok_cmp w r h q
  | le => exact ok_cmp w r h q
  | gt => exact ok_cmp w r h q
  | ge => exact ok_cmp w r h q
  | isNon => exact ok_isNon w r h q
  | notNon => exact ok_notNon w r h q
  | isB => exact ok_isB w r h q
  | notB => exact ok_notB w r h q
  | in_ => exact ok_in w r h q
  | notin => exact ok_notin w r h q
  | ix => exact ok_ix w r h q
  | sl a b => exact ok_sl w r h q
  | fld f => exact ok_fld w r h q
  | len => exact ok_len w r h q
  | sum => exact ok_sum w r h q
  | all => exact ok_all w r h q
  | any => exact ok_any w r h q
  | abs => exact ok_abs w r h q
  | max2 => exact ok_max2 w r h q
  | min2 => exact ok_min2 w r h q
  | maxL => exact ok_maxL w r h q
  | minL => exact ok_minL w r h q
  | sorted => exact ok_sorted w r h q
  | int_ => exact ok_int w r h q
  | str_ => exact ok_str w r h q
  | list_ => exact ok_list w r h q
  | dict_ => exact ok_dict w r h q
  | isT t => exact ok_isT cf w r h q
  | isC cs =>
    match cs, h with
    | [c], h => exact ok_isC cf w r h q
    | [], h => exact ok_isCs cf w r h q
    | _ :: _ :: _, h => exact ok_isCs cf w r h q
  | join => exact ok_join w r h q
  | get1 => exact ok_get1 w r h q
  | get2 => exact ok_get2 w r h q
  | index => exact ok_index w r h q
  | dnew => exact ok_dnew w r h q
  | rev => exact ok_rev w r h q
  | lenset => exact ok_lenset w r h q
  | rngL1 => exact ok_rngL1 w r h q
  | rngL2 => exact ok_rngL2 w r h q
  | dkv => exact ok_dkv w r h q
  | count => exact ok_count w r h q
  | maxD => exact ok_maxD w r h q
  | minD => exact ok_minD w r h q
  | split => exact ok_split w r h q
  | partition => exact ok_part w r h q
  | startsw => exact ok_startsw w r h q
  | endsw => exact ok_endsw w r h q
  | ljust => exact ok_ljust w r h q
  | slr => exact ok_slr w r h q
  | _ => cases h
end LD
namespace LD
open PySem PySem.Spec PyProof.Rows L2
variable {K : PySem.W.Frag} {ct : Str → Option Addr}

/-! ### what is walked -/
def rng (lo c : Int) (n : Nat) : List D := (List.range n).map fun (i : Nat) => D.int (lo + (i : Int) * c)
def rngOk (i j : Int) : Bool := decide (-(2 ^ 62) ≤ i) && decide (i < 2 ^ 62) && decide (-(2 ^ 62) ≤ j) && decide (j < 2 ^ 62)
def itF : IOp → List D → Option (List D)
  | .lst, [.lst _ l] => some l
  | .lst, [.tup l] => some l
  | .lst, [.str z] => some (z.cps.toList.map fun c => D.str ⟨#[c]⟩)
  | .enum, [.lst _ l] => some (l.zipIdx.map fun p => D.tup [.int (p.2 : Nat), p.1])
  | .zip, [.lst _ l, .lst _ m] => some ((l.zip m).map fun p => D.tup [p.1, p.2])
  | .rng1, [.int j] => if rngOk 0 j = true then some (rng 0 1 j.toNat) else none
  | .revR1, [.int j] => if rngOk 0 j = true then some (rng (j - 1) (-1) j.toNat) else none
  | .rng2, [.int i, .int j] => if rngOk i j = true then some (rng i 1 (j - i).toNat) else none
  | .rng3, [.int i, .int j, .int c] => if rngOk i j = true ∧ c = -1 then some (rng i (-1) (i - j).toNat) else none
  | .revL, [.lst _ l] => some l.reverse
  | .keys, [.dct _ ks _] => some (ks.map keyD)
  | .vals, [.dct _ ks l] => if ks.length = l.length then some l else none
  | .items, [.dct _ ks l] => if ks.length = l.length then some ((ks.zip l).map fun p => D.tup [keyD p.1, p.2]) else none
  | _, _ => none
def iAnyR (K : PySem.W.Frag) (x : V) (H : Hp) (R : It → Hp → Prop) : Prop :=
  (∃ a, x = .ref a ∧ (∃ xs, SqL K H a xs) ∧ R (Itl K a) H) ∨ (∃ a, x = .ref a ∧ (∃ xs, SqT K H a xs) ∧ R (Itt K a) H) ∨ ∃ z, x = .str z ∧ R (Its z) H
/-- a dict, locked, or locked now -/
def rWalkD (z : Hp) (I : Addr → Obj → List (Key × V) → It) (vs : List V) (H : Hp) (R : It → Hp → Prop) : Prop := ∃ d kvs, vs = [.ref d] ∧ ((∃ o, H d = some (.frz o (.dK kvs)) ∧ R (I d o kvs) H) ∨
  (H d = some (.dK kvs) ∧ ∀ od, NoFrz z d → R (I d od kvs) (upd H d (.frz od (.dK kvs)))))
def itR (K : PySem.W.Frag) (z : Hp) : IOp → List V → Hp → (It → Hp → Prop) → Prop
  | .lst => fun vs H R => ∃ x, vs = [x] ∧ iAnyR K x H R
  | .enum => fun vs H R => ∃ a xs, vs = [.ref a] ∧ SqL K H a xs ∧ R (Ite K a) H
  | .zip => fun vs H R => ∃ a b xs ys, vs = [.ref a, .ref b] ∧ SqL K H a xs ∧ SqL K H b ys ∧ R (Itz K a b) H
  | .rng1 => fun vs H R => ∃ j : Int, vs = [.int j] ∧ -(2 ^ 62) ≤ j ∧ j < 2 ^ 62 ∧ R (Itr 0 j.toNat) H
  | .revR1 => fun vs H R => match vs with
    | [x] => ∃ j : Int, x = .int j ∧ -(2 ^ 62) ≤ (0 : Int) ∧ (0 : Int) < 2 ^ 62 ∧ -(2 ^ 62) ≤ j ∧ j < 2 ^ 62 ∧ R (Itc (0 + (((j - 0).toNat : Nat) : Int) - 1) (-1) (j - 0).toNat) H
    | _ => False
  | .rng2 => fun vs H R => ∃ i j : Int, vs = [.int i, .int j] ∧ (-(2 ^ 62) ≤ i ∧ i < 2 ^ 62 ∧ -(2 ^ 62) ≤ j ∧ j < 2 ^ 62) ∧ R (Itr i (j - i).toNat) H
  | .rng3 => fun vs H R => ∃ (i j c : Int) (n : Nat), vs = [.int i, .int j, .int c] ∧ RgC i j c n ∧ R (Itc i c n) H
  | .revL => fun vs H R => ∃ (a : Addr) (xs : List V), vs = [.ref a] ∧ SqL K H a xs ∧ R (Itv K a xs.length) H
  | .keys => rWalkD z Itk
  | .vals => rWalkD z Itd
  | .items => rWalkD z Iti
  | _ => fun _ _ _ => False
theorem rng_get {lo c : Int} {n i : Nat} (h : i < n) : (rng lo c n)[i]? = some (.int (lo + (i : Int) * c)) := by
  unfold rng
  rw [List.getElem?_map, List.getElem?_range h]
  rfl
theorem rng_len {lo c : Int} {n : Nat} : (rng lo c n).length = n := by
  unfold rng
  rw [List.length_map, List.length_range]
/-- frozen rows as they are read -/
theorem frow {G H : Hp} {l : List D} {xs : List V} {i : Nat} (rl : RepL K ct G H l xs []) (h : i < l.length) : ∃ x d, xs[i]? = some x ∧ l[i]? = some d ∧ RepD K ct G H d x [] := by
  obtain ⟨v, h1, h2⟩ := RepL.get rl (List.getElem?_eq_getElem h)
  exact ⟨v, _, h1, List.getElem?_eq_getElem h, h2⟩
theorem RepL.to {G H G' H' : Hp} (le : Le G G') {l : List D} {xs : List V} (rl : RepL K ct G H l xs []) : RepL K ct G' H' l xs [] := rl.mono le fun a m => by cases m
theorem RepD.to {G H G' H' : Hp} (le : Le G G') {l : D} {xs : V} (rl : RepD K ct G H l xs []) : RepD K ct G' H' l xs [] := rl.mono le fun a m => by cases m
theorem le_of_eq {G G1 : Hp} (h : ∀ a, G a ≠ none → G1 a = G a) : Le G G1 := Le.of fun a o e => by rw [h a (by rw [e]; exact fun z => by cases z)]; exact e
theorem fz_list {G H : Hp} {m : Bool} {l : List D} {v : V} (le : Le G H) (r : RepD K ct G H (.lst m l) v []) : ∃ a xs, v = .ref a ∧ SqL K G a xs ∧ RepL K ct G H l xs [] := by
  cases m with
  | true =>
    obtain ⟨a, xs, g, _, e, _⟩ := r
    cases e
  | false =>
    obtain ⟨_, a, xs, rfl, e, rl⟩ := r
    exact ⟨a, xs, rfl, e, rl⟩
theorem nil2 {f g : List Addr} (h : ([] : List Addr) = f ++ g) : f = [] ∧ g = [] := List.append_eq_nil_iff.mp h.symm
theorem fz_dctW {G H : Hp} {m : Bool} {ks : List Key} {l : List D} {v : V} (le : Le G H) (r : RepD K ct G H (.dct m ks l) v []) : ∃ a xs, v = .ref a ∧ Rd G a (.dK (ks.zip xs)) ∧ ks.length = l.length ∧ RepL K ct G H l xs [] := by
  cases m with
  | true =>
    obtain ⟨a, xs, g, _, e, _⟩ := r
    cases e
  | false =>
    obtain ⟨_, a, xs, rfl, e, hl, rl⟩ := r
    exact ⟨a, xs, rfl, e, hl, rl⟩
theorem rep_key {G H : Hp} (k : Key) : RepD K ct G H (keyD k) (kV k) [] := by
  cases k <;> exact ⟨rfl, rfl⟩
/-- the walk over a dict: what is known of each turn is known of the locked dict -/
theorem ok_walk {z : Hp} {op : IOp} {I : Addr → Obj → List (Key × V) → It} (hop : op.dw = true) {G H : Hp} {items : List D} {a : Addr} {kvs : List (Key × V)} (w : WS G H []) (hd : Rd G a (.dK kvs)) (R : It → Hp → Prop)
    (hI : ∀ o G1 H1, Le G1 H1 → (∀ b, G b ≠ none → G1 b = G b) → H1 a = some (.frz o (.dK kvs)) → (∀ i, i < items.length → (I a o kvs).go i H1 ∧ ∀ x H2, (I a o kvs).yld i H1 x H2 → ∃ G2 d, items[i]? = some d ∧ XT G1 H1 [] G2 H2 [] ∧ RepD K ct G2 H2 d x []) ∧ (∀ i, items.length ≤ i → (I a o kvs).stop i H1))
    (q : ∀ J G' H', (XT G H [] G' H' [] ∨ (op.dw = true ∧ G' = G ∧ Lk z G H H')) → (∀ G1 H1 fs, WS G1 H1 fs → (∀ a, G' a ≠ none → G1 a = G' a) → (∀ a, G' a ≠ none → H1 a = H' a) → (∀ i, i < items.length → J.go i H1 ∧ ∀ x H2, J.yld i H1 x H2 → ∃ G2 d, items[i]? = some d ∧ XT G1 H1 [] G2 H2 [] ∧ RepD K ct G2 H2 d x []) ∧ (∀ i, items.length ≤ i → J.stop i H1)) → R J H') : rWalkD z I [.ref a] H R := by
  have gn : G a ≠ none := by rcases hd with e | ⟨o, e⟩ <;> (rw [e]; exact fun z => by cases z)
  refine ⟨a, kvs, rfl, ?_⟩
  rcases w.le.rd a _ hd with e | ⟨o, e⟩
  · refine .inr ⟨e, fun od nf => ?_⟩
    have hG : G a = some (.dK kvs) := by
      rcases hd with g | ⟨o', g⟩
      · exact g
      · rcases w.le.rd a _ (.inl g) with g2 | ⟨o2, g2⟩ <;> (rw [e] at g2; cases g2)
    refine q _ G _ (.inr ⟨hop, rfl, a, od, kvs, nf, hG, e, rfl⟩) fun G1 H1 fs w1 k k2 => hI od G1 H1 w1.le k ?_
    rw [k2 a gn, upd_same]
  · exact .inl ⟨o, e, q _ G H (.inl (XT.refl w)) fun G1 H1 fs w1 k k2 => hI o G1 H1 w1.le k (by rw [k2 a gn]; exact e)⟩
theorem ok_it (z : Hp) (o : IOp) (G H : Hp) (ds : List D) (vs : List V) (items : List D) (w : WS G H []) (r : RepL K ct G H ds vs []) (h : itF o ds = some items) (R : It → Hp → Prop)
    (q : ∀ J G' H', (XT G H [] G' H' [] ∨ (o.dw = true ∧ G' = G ∧ Lk z G H H')) → (∀ G1 H1 fs, WS G1 H1 fs → (∀ a, G' a ≠ none → G1 a = G' a) → (∀ a, G' a ≠ none → H1 a = H' a) → (∀ i, i < items.length → J.go i H1 ∧ ∀ x H2, J.yld i H1 x H2 → ∃ G2 d, items[i]? = some d ∧ XT G1 H1 [] G2 H2 [] ∧ RepD K ct G2 H2 d x []) ∧ (∀ i, items.length ≤ i → J.stop i H1)) → R J H') : itR K z o vs H R := by
  have x0 := (Or.inl (XT.refl w) : XT G H [] G H [] ∨ (o.dw = true ∧ G = G ∧ Lk z G H H))
  unfold itF at h
  split at h
  · -- a list
    rename_i m l
    cases h
    obtain ⟨v, rfl, rv⟩ := r.one
    obtain ⟨a, xs, rfl, e, rl⟩ := fz_list w.le rv
    refine ⟨_, rfl, .inl ⟨a, rfl, ⟨xs, w.le.sqL e⟩, q _ G H x0 fun G1 H1 fs w1 k _ => ?_⟩⟩
    have le := le_of_eq k
    have e1 := w1.le.sqL (le.sqL e)
    have rl1 : RepL K ct G1 H1 _ xs [] := rl.to le
    refine ⟨fun i hi => ?_, fun i hi => ⟨xs, e1, by rw [rl.length]; exact hi⟩⟩
    obtain ⟨x, d, h1, h2, h3⟩ := frow rl1 hi
    refine ⟨⟨xs, x, e1, h1⟩, fun y H2 hy => ?_⟩
    obtain ⟨rfl, hy⟩ := hy
    have := hy xs e1
    rw [h1] at this
    cases this
    exact ⟨G1, d, h2, XT.refl (WS.nil w1.le), h3⟩
  · -- a tuple
    rename_i l
    cases h
    obtain ⟨v, rfl, rv⟩ := r.one
    obtain ⟨a, xs, rfl, e, rl⟩ := rv
    refine ⟨_, rfl, .inr (.inl ⟨a, rfl, ⟨xs, w.le.sqT e⟩, q _ G H x0 fun G1 H1 fs w1 k _ => ?_⟩)⟩
    have le := le_of_eq k
    have e1 := w1.le.sqT (le.sqT e)
    have rl1 : RepL K ct G1 H1 _ xs [] := rl.to le
    refine ⟨fun i hi => ?_, fun i hi => ⟨xs, e1, by rw [rl.length]; exact hi⟩⟩
    obtain ⟨x, d, h1, h2, h3⟩ := frow rl1 hi
    refine ⟨⟨xs, x, e1, h1⟩, fun y H2 hy => ?_⟩
    obtain ⟨rfl, hy⟩ := hy
    have := hy xs e1
    rw [h1] at this
    cases this
    exact ⟨G1, d, h2, XT.refl (WS.nil w1.le), h3⟩
  · -- a text
    rename_i z
    cases h
    obtain ⟨v, rfl, ⟨rfl, _⟩⟩ := r.one
    refine ⟨_, rfl, .inr (.inr ⟨z, rfl, q _ G H x0 fun G1 H1 fs w1 k _ => ?_⟩)⟩
    refine ⟨fun i hi => ?_, fun i hi => ?_⟩
    · rw [List.length_map, Array.length_toList] at hi
      refine ⟨hi, fun y H2 hy => ?_⟩
      obtain ⟨rfl, c, hc, rfl⟩ := hy
      refine ⟨G1, .str ⟨#[c]⟩, ?_, XT.refl (WS.nil w1.le), rfl, rfl⟩
      rw [List.getElem?_map, Array.getElem?_toList, hc]
      rfl
    · rw [List.length_map, Array.length_toList] at hi
      exact hi
  · -- enumerate
    rename_i m l
    cases h
    obtain ⟨v, rfl, rv⟩ := r.one
    obtain ⟨a, xs, rfl, e, rl⟩ := fz_list w.le rv
    refine ⟨a, xs, rfl, w.le.sqL e, q _ G H x0 fun G1 H1 fs w1 k _ => ?_⟩
    have le := le_of_eq k
    have e1 := w1.le.sqL (le.sqL e)
    have rl1 : RepL K ct G1 H1 _ xs [] := rl.to le
    refine ⟨fun i hi => ?_, fun i hi => ⟨xs, e1, by rw [List.length_map, List.length_zipIdx] at hi; rw [rl.length]; exact hi⟩⟩
    rw [List.length_map, List.length_zipIdx] at hi
    obtain ⟨x, d, h1, h2, h3⟩ := frow rl1 hi
    refine ⟨⟨xs, x, e1, h1⟩, fun y H2 hy => ?_⟩
    obtain ⟨T, x', rfl, hT, rfl, hy⟩ := hy
    have := hy xs e1
    rw [h1] at this
    cases this
    have xt := XT.newG (o := .tup [.int (i : Nat), x]) (WS.nil w1.le) hT
    refine ⟨_, .tup [.int (i : Nat), d], ?_, xt, T, _, rfl, .inl (.inl upd_same), _, [_], [], [], rfl, rfl, ⟨rfl, rfl⟩, x, [], [], [], rfl, rfl, h3.to xt.le, rfl, rfl⟩
    rw [List.getElem?_map, List.getElem?_zipIdx, h2]
    simp
  · -- zip
    rename_i m l m2 l2
    cases h
    obtain ⟨v, u, f, g, rfl, hfg, rv, ru⟩ := r.two
    obtain ⟨rfl, rfl⟩ := nil2 hfg
    obtain ⟨a, xs, rfl, e, rl⟩ := fz_list w.le rv
    obtain ⟨b, ys, rfl, e', rl'⟩ := fz_list w.le ru
    refine ⟨a, b, xs, ys, rfl, w.le.sqL e, w.le.sqL e', q _ G H x0 fun G1 H1 fs w1 k _ => ?_⟩
    have le := le_of_eq k
    have e1 := w1.le.sqL (le.sqL e)
    have e2 := w1.le.sqL (le.sqL e')
    have rl1 : RepL K ct G1 H1 _ xs [] := rl.to le
    have rl2 : RepL K ct G1 H1 l2 ys [] := rl'.to le
    refine ⟨fun i hi => ?_, fun i hi => ⟨xs, ys, e1, e2, ?_⟩⟩
    · rw [List.length_map, List.length_zip] at hi
      obtain ⟨x, d, h1, h2, h3⟩ := frow rl1 (show i < l.length by omega)
      obtain ⟨y, d', h1', h2', h3'⟩ := frow rl2 (show i < l2.length by omega)
      refine ⟨⟨xs, ys, x, y, e1, e2, h1, h1'⟩, fun z H2 hy => ?_⟩
      obtain ⟨T, x', y', rfl, hT, rfl, hy, hy'⟩ := hy
      have t1 := hy xs e1
      rw [h1] at t1
      cases t1
      have t2 := hy' ys e2
      rw [h1'] at t2
      cases t2
      have xt := XT.newG (o := .tup [x, y]) (WS.nil w1.le) hT
      refine ⟨_, .tup [d, d'], ?_, xt, T, _, rfl, .inl (.inl upd_same), _, [_], [], [], rfl, rfl, h3.to xt.le, y, [], [], [], rfl, rfl, h3'.to xt.le, rfl, rfl⟩
      have ez : (l.zip l2)[i]? = some (d, d') := List.getElem?_zip_eq_some.mpr ⟨h2, h2'⟩
      rw [List.getElem?_map, ez]
      rfl
    · rw [List.length_map, List.length_zip] at hi
      rw [rl.length, rl'.length]
      omega
  · -- range(n)
    split at h
    · rename_i j hr
      cases h
      unfold rngOk at hr
      simp only [Bool.and_eq_true, decide_eq_true_eq] at hr
      obtain ⟨v, rfl, ⟨rfl, _⟩⟩ := r.one
      refine ⟨j, rfl, hr.1.2, hr.2, q _ G H x0 fun G1 H1 fs w1 k _ => ?_⟩
      refine ⟨fun i hi => ?_, fun i hi => by rw [rng_len] at hi; exact hi⟩
      rw [rng_len] at hi
      refine ⟨hi, fun y H2 hy => ?_⟩
      obtain ⟨rfl, rfl⟩ := hy
      exact ⟨G1, _, rng_get hi, XT.refl (WS.nil w1.le), by rw [Int.mul_one], rfl⟩
    · cases h
  · -- reversed(range(n))
    split at h
    · rename_i j hr
      cases h
      unfold rngOk at hr
      simp only [Bool.and_eq_true, decide_eq_true_eq] at hr
      obtain ⟨v, rfl, ⟨rfl, _⟩⟩ := r.one
      refine ⟨j, rfl, by omega, by omega, hr.1.2, hr.2, q _ G H x0 fun G1 H1 fs w1 k _ => ?_⟩
      rw [Int.sub_zero]
      refine ⟨fun i hi => ?_, fun i hi => by rw [rng_len] at hi; exact hi⟩
      rw [rng_len] at hi
      refine ⟨hi, fun y H2 hy => ?_⟩
      obtain ⟨rfl, rfl⟩ := hy
      have ej : 0 + ((j.toNat : Nat) : Int) - 1 = j - 1 := by omega
      rw [ej]
      exact ⟨G1, _, rng_get hi, XT.refl (WS.nil w1.le), rfl, rfl⟩
    · cases h
  · split at h
    · rename_i i0 j hr
      cases h
      unfold rngOk at hr
      simp only [Bool.and_eq_true, decide_eq_true_eq] at hr
      obtain ⟨v, u, f, g, rfl, _, ⟨rfl, _⟩, ⟨rfl, _⟩⟩ := r.two
      refine ⟨i0, j, rfl, ⟨hr.1.1.1, hr.1.1.2, hr.1.2, hr.2⟩, q _ G H x0 fun G1 H1 fs w1 k _ => ?_⟩
      refine ⟨fun i hi => ?_, fun i hi => by rw [rng_len] at hi; exact hi⟩
      rw [rng_len] at hi
      refine ⟨hi, fun y H2 hy => ?_⟩
      obtain ⟨rfl, rfl⟩ := hy
      exact ⟨G1, _, rng_get hi, XT.refl (WS.nil w1.le), by rw [Int.mul_one], rfl⟩
    · cases h
  · split at h
    · rename_i i0 j c hr
      cases h
      obtain ⟨hr, rfl⟩ := hr
      unfold rngOk at hr
      simp only [Bool.and_eq_true, decide_eq_true_eq] at hr
      obtain ⟨v, u, x, f, g, g2, rfl, _, ⟨rfl, _⟩, ⟨rfl, _⟩, ⟨rfl, _⟩⟩ := r.three
      refine ⟨i0, j, -1, _, rfl, RgC.neg hr.1.1.1 hr.1.1.2 hr.1.2 hr.2, q _ G H x0 fun G1 H1 fs w1 k _ => ?_⟩
      refine ⟨fun i hi => ?_, fun i hi => by rw [rng_len] at hi; exact hi⟩
      rw [rng_len] at hi
      refine ⟨hi, fun y H2 hy => ?_⟩
      obtain ⟨rfl, rfl⟩ := hy
      exact ⟨G1, _, rng_get hi, XT.refl (WS.nil w1.le), rfl, rfl⟩
    · cases h
  · -- reversed
    rename_i m l
    cases h
    obtain ⟨v, rfl, rv⟩ := r.one
    obtain ⟨a, xs, rfl, e, rl⟩ := fz_list w.le rv
    refine ⟨a, xs, rfl, w.le.sqL e, q _ G H x0 fun G1 H1 fs w1 k _ => ?_⟩
    have le := le_of_eq k
    have e1 := w1.le.sqL (le.sqL e)
    have rl1 : RepL K ct G1 H1 _ xs [] := rl.to le
    refine ⟨fun i hi => ?_, fun i hi => by rw [List.length_reverse] at hi; show xs.length ≤ i; rw [rl.length]; exact hi⟩
    rw [List.length_reverse] at hi
    obtain ⟨x, d, h1, h2, h3⟩ := frow rl1 (show l.length - 1 - i < l.length by omega)
    refine ⟨⟨by rw [rl.length]; exact hi, xs, x, e1, by rw [rl.length]; exact h1⟩, fun y H2 hy => ?_⟩
    obtain ⟨rfl, hy⟩ := hy
    have := hy xs e1
    rw [rl.length, h1] at this
    cases this
    refine ⟨G1, d, ?_, XT.refl (WS.nil w1.le), h3⟩
    rw [List.getElem?_reverse hi]
    exact h2
  · -- a dict's keys
    rename_i m ks l
    cases h
    obtain ⟨v, rfl, rv⟩ := r.one
    obtain ⟨a, xs, rfl, e, hl, rl⟩ := fz_dctW w.le rv
    have hlen : (ks.zip xs).length = ks.length := by rw [List.length_zip, rl.length, hl, Nat.min_self]
    refine ok_walk rfl w e R (fun o G1 H1 le k hd => ⟨fun i hi => ?_, fun i hi => ⟨hd, by rw [hlen]; rw [List.length_map] at hi; exact hi⟩⟩) q
    rw [List.length_map] at hi
    refine ⟨⟨hd, by rw [hlen]; exact hi⟩, fun y H2 hy => ?_⟩
    obtain ⟨rfl, kk, vv, hkv, rfl⟩ := hy
    refine ⟨G1, keyD kk, ?_, XT.refl (WS.nil le), rep_key kk⟩
    rw [List.getElem?_map, (List.getElem?_zip_eq_some.mp hkv).1]
    rfl
  · split at h
    · rename_i m ks l hl
      cases h
      obtain ⟨v, rfl, rv⟩ := r.one
      obtain ⟨a, xs, rfl, e, hl, rl⟩ := fz_dctW w.le rv
      have hlen : (ks.zip xs).length = items.length := by rw [List.length_zip, rl.length, hl, Nat.min_self]
      refine ok_walk rfl w e R (fun o G1 H1 le k hd => ⟨fun i hi => ?_, fun i hi => ⟨hd, by rw [hlen]; exact hi⟩⟩) q
      have rl1 : RepL K ct G1 H1 _ xs [] := (rl.mono (le_of_eq k) fun a m => by cases m)
      obtain ⟨x, d, h1, h2, h3⟩ := frow rl1 hi
      refine ⟨⟨hd, by rw [hlen]; exact hi⟩, fun y H2 hy => ?_⟩
      obtain ⟨rfl, kk, hkv⟩ := hy
      have := (List.getElem?_zip_eq_some.mp hkv).2
      rw [h1] at this
      cases this
      exact ⟨G1, d, h2, XT.refl (WS.nil le), h3⟩
    · cases h
  · split at h
    · rename_i m ks l hl
      cases h
      obtain ⟨v, rfl, rv⟩ := r.one
      obtain ⟨a, xs, rfl, e, hl, rl⟩ := fz_dctW w.le rv
      have hlen : (ks.zip xs).length = l.length := by rw [List.length_zip, rl.length, hl, Nat.min_self]
      have hlen2 : ((ks.zip l).map fun p => D.tup [keyD p.1, p.2]).length = l.length := by rw [List.length_map, List.length_zip, hl, Nat.min_self]
      refine ok_walk rfl w e R (fun o G1 H1 le k hd => ⟨fun i hi => ?_, fun i hi => ⟨hd, by rw [hlen]; rw [hlen2] at hi; exact hi⟩⟩) q
      rw [hlen2] at hi
      have rl1 : RepL K ct G1 H1 _ xs [] := (rl.mono (le_of_eq k) fun a m => by cases m)
      obtain ⟨x, d, h1, h2, h3⟩ := frow rl1 hi
      refine ⟨⟨hd, by rw [hlen]; exact hi⟩, fun y H2 hy => ?_⟩
      obtain ⟨T, kk, vv, hkv, rfl, hT, rfl⟩ := hy
      obtain ⟨hk1, hk2⟩ := List.getElem?_zip_eq_some.mp hkv
      rw [h1] at hk2
      cases hk2
      have xt := XT.newG (o := .tup [kV kk, vv]) (WS.nil le) hT
      refine ⟨_, .tup [keyD kk, d], ?_, xt, T, _, rfl, .inl (.inl upd_same), _, [_], [], [], rfl, rfl, (rep_key kk), vv, [], [], [], rfl, rfl, h3.to xt.le, rfl, rfl⟩
      have ez : (ks.zip l)[i]? = some (kk, d) := List.getElem?_zip_eq_some.mpr ⟨hk1, h2⟩
      rw [List.getElem?_map, ez]
      rfl
    · cases h
  · cases h
/-- the facts of the classes, and the heap at the entry -/
structure CfZ (K : PySem.W.Frag) (ct : Str → Option Addr) (sub : Str → Str → Option Bool) where
  c : Cf K ct sub
  z : Hp
/-- the operations -/
def ops (K : PySem.W.Frag) (ct : Str → Option Addr) (sub : Str → Str → Option Bool) (cf : CfZ K ct sub) : Ops K ct where
  z := cf.z
  r := opR K ct
  f := opF sub
  ok := fun o G H ds vs fs d w r h Q q => ok_op cf.c o w r h q
  ri := itR K cf.z
  fi := itF
  oki := fun o G H ds vs items w r h R q => ok_it cf.z o G H ds vs items w r h R q
end LD
namespace LD
open PySem PySem.Spec PyProof.Rows L2
variable {K : PySem.W.Frag} {ct : Str → Option Addr}

/-! ### changes in place, on data -/
def dupAt {κ : Type} [DecidableEq κ] (ks : List κ) (i : Nat) (k : κ) : Bool := (ks.drop (i + 1)).any fun j => decide (j = k)
def mAppend : D → List D → Option (D × D)
  | .lst true l, [x] => if l.length < lim then some (.lst true (l ++ [x]), .non) else none
  | _, _ => none
def mInsert : D → List D → Option (D × D)
  | .lst true l, [.int i, x] => if l.length < lim ∧ 0 ≤ i ∧ i < 2 ^ 63 then some (.lst true (l.take i.toNat ++ x :: l.drop i.toNat), .non) else none
  | _, _ => none
def mPopL : D → List D → Option (D × D)
  | .lst true l, [] => (l[l.length - 1]?).map fun y => (.lst true l.dropLast, y)
  | _, _ => none
def mPopAt : D → List D → Option (D × D)
  | .lst true l, [.int i] => if -(2 ^ 63) ≤ i ∧ i < 2 ^ 63 then (seqIndex? i l.length).bind fun k => (l[k]?).map fun y => (.lst true (l.eraseIdx k), y) else none
  | _, _ => none
/-- l.remove(x): the first equal one -/
def mRemove : D → List D → Option (D × D)
  | .lst true l, [x] => if (D.pl 8 x && D.plL 8 l) = true ∧ l.length < lim then match l.findIdx? fun y => D.eqb y x with
    | some j => some (.lst true (l.eraseIdx j), .non)
    | none => none
    else none
  | _, _ => none
def rRemoveQ (K : PySem.W.Frag) : V → List V → Hp → VK → Prop := fun x vs H Q => ∃ (a : Addr) (xs : List V) (y : V) (d : PyData) (ds : List PyData) (j : Nat) (z : PyData), x = .ref a ∧ vs = [y] ∧ H a = some (.lst xs) ∧ xs.length < sizeLine ∧ DpAll K H xs ds ∧ Dp K H y d ∧ SeqAt.shaped (.list ds) = true ∧ SeqAt.shaped d = true ∧
  ds[j]? = some z ∧ PyData.eqv z d = true ∧ (∀ m z', m < j → ds[m]? = some z' → PyData.eqv z' d = false) ∧ Q .non (upd H a (.lst (xs.eraseIdx j)))
/-- l.insert(i, l.pop(j)) -/
def mInsPop : D → List D → Option (D × D)
  | d, [.int i, .int j] => (mPopAt d [.int j]).bind fun t => mInsert t.1 [.int i, t.2]
  | _, _ => none
def mPopK : D → List D → Option (D × D)
  | .dct true ks l, [k] => (keyOf k).bind fun k => (ks.findIdx? fun j => decide (j = k)).bind fun i => if dupAt ks i k = true then none else (l[i]?).map fun y => (.dct true (ks.eraseIdx i) (l.eraseIdx i), y)
  | _, _ => none
def mClearL : D → List D → Option (D × D)
  | .lst true _, [] => some (.lst true [], .non)
  | _, _ => none
def mClearD : D → List D → Option (D × D)
  | .dct true _ _, [] => some (.dct true [] [], .non)
  | _, _ => none
def mExtend : D → List D → Option (D × D)
  | .lst true l, [.lst true m] => if l.length + m.length < lim then some (.lst true (l ++ m), .non) else none
  | _, _ => none
def mSetI : D → List D → Option (D × D)
  | .lst true l, [.int i, x] => (ixN l.length i).map fun k => (.lst true (l.set k x), .non)
  | .dct true ks l, [k, x] => if ks.length < lim then (keyOf k).bind fun k => match ks.findIdx? fun j => decide (j = k) with
    | some i => if dupAt ks i k = true then none else some (.dct true ks (l.set i x), .non)
    | none => some (.dct true (ks ++ [k]) (l ++ [x]), .non)
    else none
  | _, _ => none
def mSetF (f : Str) : D → List D → Option (D × D)
  | .ins true c fs l, [x] => if fs.length < 1000 ∧ isX c = false then match fs.findIdx? fun g => decide (g = f) with
    | some i => some (.ins true c fs (l.set i x), .non)
    | none => some (.ins true c (fs ++ [f]) (l ++ [x]), .non)
    else none
  | _, _ => none
def moF : MOp → D → List D → Option (D × D)
  | .append => mAppend | .insert => mInsert | .popL => mPopL | .popAt => mPopAt | .popK => mPopK | .clearL => mClearL | .clearD => mClearD | .extend => mExtend | .setI => mSetI | .setF f => mSetF f | .insPop => mInsPop | .remove => mRemove
  | _ => fun _ _ => none
def rInsertQ : V → List V → Hp → VK → Prop := fun x vs H Q => ∃ (l : Addr) (xs : List V) (i : Int) (y : V), x = .ref l ∧ vs = [.int i, y] ∧ H l = some (.lst xs) ∧ xs.length < sizeLine ∧ 0 ≤ i ∧ i < 2 ^ 63 ∧ Q .non (upd H l (.lst (xs.take i.toNat ++ [y] ++ xs.drop i.toNat)))
def rInsPop : V → List V → Hp → VK → Prop := fun x vs H Q => match vs with
  | [y, z] => rPopAt x [z] H fun u H1 => rInsertQ x [y, u] H1 Q
  | _ => False
def rPopKQ : V → List V → Hp → VK → Prop := fun x vs H Q => ∃ a k v kvs, x = .ref a ∧ vs = [kV k] ∧ H a = some (.dK kvs) ∧ valV kvs k = some v ∧ Q v (upd H a (.dK (dropK kvs k)))
def rClearDQ : V → List V → Hp → VK → Prop := fun x vs H Q => ∃ (a : Addr) (kvs : List (Key × V)), x = .ref a ∧ vs = [] ∧ H a = some (.dK kvs) ∧ Q .non (upd H a (.dK []))
def rSetIQ : V → List V → Hp → VK → Prop := fun x vs H Q => ∃ i y, vs = [i, y] ∧ (rSetL x i y H (fun H' => Q .non H') ∨ ∃ a H', x = .ref a ∧ DPut H a i y H' ∧ Q .non H')
def rSetFQ (ct : Str → Option Addr) (f : Str) : V → List V → Hp → VK → Prop := fun x vs H Q => ∃ y a C dx fs, vs = [y] ∧ x = .ref a ∧ H a = some (.ins C dx fs) ∧ (∃ c, ct c = some C ∧ isX c = false) ∧ fs.length < 1000 ∧ Q .non (upd H a (.ins C dx (putF f y fs)))
def moR (K : PySem.W.Frag) (ct : Str → Option Addr) : MOp → V → List V → Hp → VK → Prop
  | .append => rAppend | .insert => rInsertQ | .popL => rPop | .popAt => rPopAt | .popK => rPopKQ | .clearL => rClear | .clearD => rClearDQ | .extend => rExtend
  | .setI => rSetIQ | .setF f => rSetFQ ct f | .insPop => rInsPop | .remove => rRemoveQ K
  | _ => fun _ _ _ _ => False
/-- the k-th, and both sides -/
theorem RepL.parts {G H : Hp} : ∀ {ds : List D} {vs : List V} {f : List Addr} {k : Nat} {d : D}, RepL K ct G H ds vs f → ds[k]? = some d →
    ∃ va v vb fa f1 fb, vs = va ++ v :: vb ∧ va.length = k ∧ f = fa ++ (f1 ++ fb) ∧ RepL K ct G H (ds.take k) va fa ∧ RepD K ct G H d v f1 ∧ RepL K ct G H (ds.drop (k + 1)) vb fb
  | [], _, _, _, _, _, h => by simp at h
  | d :: ds, _, _, 0, d', ⟨v, vs, f, g, e, e0, r, rs⟩, h => by
    have h' : d = d' := by simpa using h
    subst h'
    exact ⟨[], v, vs, [], f, g, e, rfl, e0, ⟨rfl, rfl⟩, r, rs⟩
  | d :: ds, _, _, k + 1, d', ⟨v, vs, f, g, e, e0, r, rs⟩, h => by
    obtain ⟨va, u, vb, fa, f1, fb, h1, h2, h3, h4, h5, h6⟩ := RepL.parts (k := k) rs (by simpa using h)
    exact ⟨v :: va, u, vb, f ++ fa, f1, fb, by rw [e, h1]; rfl, by simp [h2], by rw [e0, h3, List.append_assoc], ⟨v, va, f, fa, rfl, rfl, r, h4⟩, h5, h6⟩
theorem set_parts {α : Type} {l : List α} {k : Nat} {x : α} (h : k < l.length) : l.set k x = l.take k ++ x :: l.drop (k + 1) := by
  rw [List.set_eq_take_append_cons_drop, if_pos h]
theorem set_mid {α : Type} {va vb : List α} {v x : α} {k : Nat} (h : va.length = k) : (va ++ v :: vb).set k x = va ++ x :: vb := by
  subst h
  rw [List.set_append, if_neg (Nat.lt_irrefl _), Nat.sub_self]
  rfl
theorem erase_mid {α : Type} {va vb : List α} {v : α} {k : Nat} (h : va.length = k) : (va ++ v :: vb).eraseIdx k = va ++ vb := by
  subst h
  rw [List.eraseIdx_append_of_length_le (Nat.le_refl _), Nat.sub_self]
  rfl
theorem erase_parts {α : Type} {l : List α} {k : Nat} : l.eraseIdx k = l.take k ++ l.drop (k + 1) := List.eraseIdx_eq_take_drop_succ l k
/-- keys -/
theorem zip_set {κ : Type} : ∀ {ks : List κ} {xs : List V} {i : Nat} {k : κ} {y : V}, ks[i]? = some k → (ks.zip xs).set i (k, y) = ks.zip (xs.set i y)
  | [], _, _, _, _, h => by simp at h
  | _ :: _, [], i, _, _, h => by cases i <;> rfl
  | j :: ks, x :: xs, 0, k, y, h => by
    have e : j = k := by simpa using h
    subst e
    rfl
  | j :: ks, x :: xs, i + 1, k, y, h => by
    rw [List.zip_cons_cons, List.set_cons_succ, List.set_cons_succ, List.zip_cons_cons, zip_set (by simpa using h)]
theorem map_put {κ : Type} [DecidableEq κ] {k : κ} {y : V} : ∀ {ks : List κ} {xs : List V} {i : Nat}, (ks.findIdx? fun j => decide (j = k)) = some i → dupAt ks i k = false → ks.length = xs.length →
    (ks.zip xs).map (fun kv => if kv.1 = k then (kv.1, y) else kv) = ks.zip (xs.set i y)
  | [], _, _, h, _, _ => by simp at h
  | _ :: _, [], _, _, _, h => by cases h
  | j :: ks, x :: xs, i, h, hd, hl => by
    rw [List.findIdx?_cons] at h
    by_cases e : j = k
    · subst e
      simp at h
      subst h
      rw [List.zip_cons_cons, List.map_cons, if_pos rfl, List.set_cons_zero, List.zip_cons_cons]
      congr 1
      have hd' : (ks.any fun q => decide (q = j)) = false := hd
      have hno : ∀ q ∈ ks, q ≠ j := fun q m z => by
        have := List.any_eq_false.mp hd' q m
        exact this (decide_eq_true z)
      have hz : ∀ q ∈ ks.zip xs, (if q.1 = j then (q.1, y) else q) = q := fun q m => if_neg (hno q.1 (List.of_mem_zip m).1)
      rw [List.map_congr_left hz, List.map_id']
    · rw [decide_eq_false e] at h
      cases hr : ks.findIdx? fun q => decide (q = k) with
      | none => rw [hr] at h; simp at h
      | some m =>
        rw [hr] at h
        simp at h
        subst h
        rw [List.zip_cons_cons, List.map_cons, if_neg e, List.set_cons_succ, List.zip_cons_cons, map_put hr hd (by simpa using hl)]
theorem find_any {κ : Type} [DecidableEq κ] {k : κ} {ks : List κ} : (∃ i, (ks.findIdx? fun j => decide (j = k)) = some i) ↔ (ks.any fun j => decide (j = k)) = true := by
  constructor
  · rintro ⟨i, h⟩
    obtain ⟨hlt, hp, _⟩ := List.findIdx?_eq_some_iff_getElem.mp h
    exact List.any_eq_true.mpr ⟨_, List.getElem_mem hlt, hp⟩
  · intro h
    cases e : ks.findIdx? fun j => decide (j = k) with
    | some i => exact ⟨i, rfl⟩
    | none =>
      rw [List.findIdx?_eq_none_iff] at e
      obtain ⟨x, m, hx⟩ := List.any_eq_true.mp h
      rw [e x m] at hx
      cases hx
theorem any_zip {κ : Type} [DecidableEq κ] {k : κ} : ∀ {ks : List κ} {xs : List V}, ks.length = xs.length → ((ks.zip xs).any fun kv => decide (kv.1 = k)) = ks.any fun j => decide (j = k)
  | [], _, _ => rfl
  | _ :: _, [], h => by cases h
  | j :: ks, x :: xs, h => by rw [List.zip_cons_cons, List.any_cons, List.any_cons, any_zip (by simpa using h)]
theorem put_old {ks : List Key} {xs : List V} {i : Nat} {k : Key} {y : V} (h : (ks.findIdx? fun j => decide (j = k)) = some i) (hd : dupAt ks i k = false) (hl : ks.length = xs.length) : putK (ks.zip xs) k y = ks.zip (xs.set i y) := by
  unfold putK
  rw [any_zip hl, find_any.mp ⟨i, h⟩, if_pos rfl]
  exact map_put h hd hl
theorem zip_snoc {κ : Type} : ∀ {ks : List κ} {xs : List V} {k : κ} {y : V}, ks.length = xs.length → (ks ++ [k]).zip (xs ++ [y]) = ks.zip xs ++ [(k, y)]
  | [], [], _, _, _ => rfl
  | [], _ :: _, _, _, h => by cases h
  | _ :: _, [], _, _, h => by cases h
  | j :: ks, x :: xs, k, y, h => by
    rw [List.cons_append, List.cons_append, List.zip_cons_cons, List.zip_cons_cons, zip_snoc (by simpa using h), List.cons_append]
theorem put_new {ks : List Key} {xs : List V} {k : Key} {y : V} (h : (ks.findIdx? fun j => decide (j = k)) = none) (hl : ks.length = xs.length) : putK (ks.zip xs) k y = (ks ++ [k]).zip (xs ++ [y]) := by
  have e : (ks.any fun j => decide (j = k)) = false := by
    cases q : ks.any fun j => decide (j = k) with
    | false => rfl
    | true =>
      obtain ⟨i, hi⟩ := find_any.mpr q
      rw [h] at hi
      cases hi
  unfold putK
  rw [any_zip hl, e, if_neg Bool.false_ne_true, zip_snoc hl]
theorem drop_old {k : Key} : ∀ {ks : List Key} {xs : List V} {i : Nat}, (ks.findIdx? fun j => decide (j = k)) = some i → dupAt ks i k = false → ks.length = xs.length → dropK (ks.zip xs) k = (ks.eraseIdx i).zip (xs.eraseIdx i)
  | [], _, _, h, _, _ => by simp at h
  | _ :: _, [], _, _, _, h => by cases h
  | j :: ks, x :: xs, i, h, hd, hl => by
    rw [List.findIdx?_cons] at h
    by_cases e : j = k
    · subst e
      simp at h
      subst h
      have hd' : (ks.any fun q => decide (q = j)) = false := hd
      have hno : ∀ q ∈ ks, q ≠ j := fun q m z => by
        have := List.any_eq_false.mp hd' q m
        exact this (decide_eq_true z)
      show ((j, x) :: ks.zip xs).filter (fun kv => decide (kv.1 ≠ j)) = ks.zip xs
      rw [List.filter_cons, if_neg (by simp)]
      rw [List.filter_eq_self]
      intro q m
      exact decide_eq_true (hno q.1 (List.of_mem_zip m).1)
    · rw [decide_eq_false e] at h
      cases hr : ks.findIdx? fun q => decide (q = k) with
      | none => rw [hr] at h; simp at h
      | some m =>
        rw [hr] at h
        simp at h
        subst h
        have ih := drop_old (xs := xs) hr hd (by simpa using hl)
        show ((j, x) :: ks.zip xs).filter (fun kv => decide (kv.1 ≠ k)) = ((j, x) :: (ks.eraseIdx m).zip (xs.eraseIdx m))
        rw [List.filter_cons, if_pos (decide_eq_true e)]
        congr 1
theorem putF_old {f : Str} {y : V} : ∀ {fs : List Str} {xs : List V} {i : Nat}, (fs.findIdx? fun j => decide (j = f)) = some i → fs.length = xs.length → putF f y (fs.zip xs) = fs.zip (xs.set i y)
  | [], _, _, h, _ => by simp at h
  | _ :: _, [], _, _, h => by cases h
  | j :: ks, x :: xs, i, h, hl => by
    rw [List.findIdx?_cons] at h
    by_cases e : j = f
    · subst e
      simp at h
      subst h
      show (if j = j then (j, y) :: ks.zip xs else _) = _
      rw [if_pos rfl]
      rfl
    · rw [decide_eq_false e] at h
      cases hr : ks.findIdx? fun q => decide (q = f) with
      | none => rw [hr] at h; simp at h
      | some m =>
        rw [hr] at h
        simp at h
        subst h
        show (if j = f then (j, y) :: ks.zip xs else (j, x) :: putF f y (ks.zip xs)) = _
        rw [if_neg e, putF_old hr (by simpa using hl)]
        rfl
theorem putF_new {f : Str} {y : V} : ∀ {fs : List Str} {xs : List V}, (fs.findIdx? fun j => decide (j = f)) = none → fs.length = xs.length → putF f y (fs.zip xs) = (fs ++ [f]).zip (xs ++ [y])
  | [], [], _, _ => rfl
  | [], _ :: _, _, h => by cases h
  | _ :: _, [], _, h => by cases h
  | j :: ks, x :: xs, h, hl => by
    rw [List.findIdx?_cons] at h
    by_cases e : j = f
    · subst e
      simp at h
    · rw [decide_eq_false e] at h
      have hr : (ks.findIdx? fun q => decide (q = f)) = none := by
        cases q : ks.findIdx? fun q => decide (q = f) with
        | none => rfl
        | some m => rw [q] at h; simp at h
      show (if j = f then (j, y) :: ks.zip xs else (j, x) :: putF f y (ks.zip xs)) = _
      rw [if_neg e, putF_new hr (by simpa using hl)]
      rfl
end LD
namespace LD
open PySem PySem.Spec PyProof.Rows L2
variable {K : PySem.W.Frag} {ct : Str → Option Addr} {G H : Hp} {f0 g : List Addr} {ds : List D} {vs : List V} {v : V} {d d' u : D} {Q : VK}

/-- what is wanted behind a change in place -/
abbrev MW (K : PySem.W.Frag) (ct : Str → Option Addr) (G H : Hp) (fs : List Addr) (v : V) (d' u : D) (Q : VK) : Prop := ∀ y G' H' f' fu, XT G H fs G' H' (f' ++ fu) → RepD K ct G' H' d' v f' → RepD K ct G' H' u y fu → Q y H'
theorem wr {a : Addr} {fl g gs : List Addr} {o : HO} (w : WS G H ((a :: fl) ++ g)) (hs : ∀ b, b ∈ gs → b ∈ fl ++ g) (nd : gs.Nodup) : XT G H ((a :: fl) ++ g) G (upd H a o) (a :: gs) ∧ ∀ b, b ∈ fl ++ g → upd H a o b = H b := by
  have w' : WS G H (a :: (fl ++ g)) := w
  have ne : ∀ b, b ∈ fl ++ g → b ≠ a := fun b m e => (List.nodup_cons.mp w'.nd).1 (e ▸ m)
  exact ⟨XT.write (o := o) w' (List.nodup_cons.mpr ⟨fun m => ne a (hs a m) rfl, nd⟩) hs, fun b m => upd_ne (ne b m)⟩
/-- a list changed, None told -/
theorem wr_lst {a : Addr} {fl gs : List Addr} {l : List D} {xs : List V} (w : WS G H ((a :: fl) ++ g)) (hs : ∀ b, b ∈ gs → b ∈ fl ++ g) (nd : gs.Nodup) (r : RepL K ct G H l xs gs) (q : MW K ct G H ((a :: fl) ++ g) (.ref a) (.lst true l) .non Q) : Q .non (upd H a (.lst xs)) := by
  obtain ⟨x, k⟩ := wr (o := .lst xs) w hs nd
  exact q .non G _ (a :: gs) [] (by rw [List.append_nil]; exact x) ⟨a, xs, gs, rfl, rfl, upd_same, r.mono (Le.refl G) fun b m => k b (hs b m)⟩ ⟨rfl, rfl⟩
theorem wr_dct {a : Addr} {fl gs : List Addr} {ks : List Key} {l : List D} {xs : List V} (w : WS G H ((a :: fl) ++ g)) (hs : ∀ b, b ∈ gs → b ∈ fl ++ g) (nd : gs.Nodup) (hl : ks.length = l.length) (r : RepL K ct G H l xs gs) (q : MW K ct G H ((a :: fl) ++ g) (.ref a) (.dct true ks l) .non Q) : Q .non (upd H a (.dK (ks.zip xs))) := by
  obtain ⟨x, k⟩ := wr (o := .dK (ks.zip xs)) w hs nd
  exact q .non G _ (a :: gs) [] (by rw [List.append_nil]; exact x) ⟨a, xs, gs, rfl, rfl, upd_same, hl, r.mono (Le.refl G) fun b m => k b (hs b m)⟩ ⟨rfl, rfl⟩
theorem RepL.con {d : D} {ds : List D} {v : V} {vs : List V} {f g : List Addr} (r : RepD K ct G H d v f) (rs : RepL K ct G H ds vs g) : RepL K ct G H (d :: ds) (v :: vs) (f ++ g) := ⟨v, vs, f, g, rfl, rfl, r, rs⟩
theorem RepL.sing {d : D} {v : V} {f : List Addr} (r : RepD K ct G H d v f) : RepL K ct G H [d] [v] f := ⟨v, [], f, [], rfl, by rw [List.append_nil], r, rfl, rfl⟩
theorem RepL.nilr : RepL K ct G H [] [] [] := ⟨rfl, rfl⟩
theorem nd3 {fa f1 fb g : List Addr} (nd : ((fa ++ (f1 ++ fb)) ++ g).Nodup) : (fa ++ (g ++ fb)).Nodup := by
  simp only [List.nodup_append, List.mem_append] at nd ⊢
  grind
theorem ok_append (w : WS G H (f0 ++ g)) (rd : RepD K ct G H d v f0) (rl : RepL K ct G H ds vs g) (h : mAppend d ds = some (d', u)) (q : MW K ct G H (f0 ++ g) v d' u Q) : rAppend v vs H Q := by
  unfold mAppend at h
  split at h
  · split at h
    · rename_i hl
      cases h
      obtain ⟨a, xs, fl, rfl, rfl, e, r1⟩ := rd
      obtain ⟨y, rfl, ry⟩ := rl.one
      have w' : WS G H (a :: (fl ++ g)) := w
      exact ⟨a, xs, y, rfl, rfl, e, by rw [r1.length]; exact lim_line hl, wr_lst w (fun b m => m) (List.nodup_cons.mp w'.nd).2 (r1.append (RepL.sing ry)) q⟩
    · cases h
  all_goals cases h
theorem ok_insert (w : WS G H (f0 ++ g)) (rd : RepD K ct G H d v f0) (rl : RepL K ct G H ds vs g) (h : mInsert d ds = some (d', u)) (q : MW K ct G H (f0 ++ g) v d' u Q) : rInsertQ v vs H Q := by
  unfold mInsert at h
  split at h
  · split at h
    · rename_i l i x hl
      cases h
      obtain ⟨a, xs, fl, rfl, rfl, e, r1⟩ := rd
      obtain ⟨z, y, f, g', rfl, rfl, ⟨rfl, rfl⟩, ry⟩ := rl.two
      refine ⟨a, xs, i, y, rfl, rfl, e, by rw [r1.length]; exact lim_line hl.1, hl.2.1, hl.2.2, ?_⟩
      obtain ⟨v1, v2, f1, f2, e1, e2, s1, s2⟩ := RepL.split (ds := l.take i.toNat) (es := l.drop i.toNat) (by rw [List.take_append_drop]; exact r1)
      have hlen : v1 = xs.take i.toNat ∧ v2 = xs.drop i.toNat := by
        have hl1 := s1.length
        rw [List.length_take] at hl1
        have := r1.length
        subst e1
        by_cases hi : i.toNat ≤ l.length
        · rw [Nat.min_eq_left hi] at hl1
          rw [← hl1]
          simp
        · have h0 : l.drop i.toNat = [] := List.drop_eq_nil_of_le (by omega)
          rw [h0] at s2
          obtain ⟨rfl, _⟩ := s2
          rw [Nat.min_eq_right (by omega)] at hl1
          simp only [List.append_nil] at this ⊢
          exact ⟨(List.take_of_length_le (by omega)).symm, (List.drop_eq_nil_of_le (by omega)).symm⟩
      rw [← hlen.1, ← hlen.2, List.append_assoc]
      subst e2
      have w' : WS G H (a :: ((f1 ++ f2) ++ ([] ++ g'))) := w
      have nd := (List.nodup_cons.mp w'.nd).2
      refine wr_lst (gs := f1 ++ (g' ++ f2)) w (fun b m => ?_) ?_ (s1.append (RepL.con ry s2)) q
      · simp only [List.mem_append] at m ⊢
        rcases m with z | z | z <;> simp [z]
      · simp only [List.nil_append, List.nodup_append, List.mem_append] at nd ⊢
        grind
    · cases h
  all_goals cases h
theorem ok_popL (w : WS G H (f0 ++ g)) (rd : RepD K ct G H d v f0) (rl : RepL K ct G H ds vs g) (h : mPopL d ds = some (d', u)) (q : MW K ct G H (f0 ++ g) v d' u Q) : rPop v vs H Q := by
  unfold mPopL at h
  split at h
  · rename_i l
    cases hy : l[l.length - 1]? with
    | none => rw [hy] at h; cases h
    | some y =>
      rw [hy] at h
      cases h
      obtain ⟨a, xs, fl, rfl, rfl, e, r1⟩ := rd
      obtain ⟨rfl, rfl⟩ := rl
      obtain ⟨va, v1, vb, fa, f1, fb, e1, e2, e3, r2, r3, r4⟩ := r1.parts hy
      have hne : l ≠ [] := fun z => by subst z; simp at hy
      have hlen : 0 < l.length := by cases l with | nil => exact absurd rfl hne | cons _ _ => exact Nat.succ_pos _
      have h0 : l.drop (l.length - 1 + 1) = [] := List.drop_eq_nil_of_le (by omega)
      rw [h0] at r4
      obtain ⟨rfl, rfl⟩ := r4
      subst e1 e3
      have hv : va.length + 1 = l.length := by omega
      refine ⟨a, _, v1, rfl, rfl, e, ?_, ?_⟩
      · simp
      · rw [List.dropLast_concat]
        have er : l.dropLast = l.take (l.length - 1) := List.dropLast_eq_take
        rw [er] at q
        have w' : WS G H (a :: ((fa ++ (f1 ++ [])) ++ [])) := w
        have nd := (List.nodup_cons.mp w'.nd).2
        simp only [List.append_nil] at nd
        have na := List.nodup_append.mp nd
        have nn := (List.nodup_cons.mp w'.nd).1
        obtain ⟨x, k⟩ := wr (o := .lst va) (gs := fa ++ f1) w (fun b m => by
          simp only [List.mem_append] at m ⊢
          rcases m with z | z <;> simp [z]) nd
        refine q v1 G _ (a :: fa) f1 x ⟨a, va, fa, rfl, rfl, upd_same, r2.mono (Le.refl G) fun b m => k b (by simp [m])⟩ (r3.mono (Le.refl G) fun b m => k b (by simp [m]))
  all_goals cases h
theorem ok_popAt (w : WS G H (f0 ++ g)) (rd : RepD K ct G H d v f0) (rl : RepL K ct G H ds vs g) (h : mPopAt d ds = some (d', u)) (q : MW K ct G H (f0 ++ g) v d' u Q) : rPopAt v vs H Q := by
  unfold mPopAt at h
  split at h
  · rename_i l i
    split at h
    · rename_i hb
      cases hk : seqIndex? i l.length with
      | none => rw [hk] at h; cases h
      | some k =>
        rw [hk] at h
        dsimp only [Option.bind] at h
        cases hy : l[k]? with
        | none => rw [hy] at h; cases h
        | some y =>
          rw [hy] at h
          cases h
          obtain ⟨a, xs, fl, rfl, rfl, e, r1⟩ := rd
          obtain ⟨z, rfl, ⟨rfl, rfl⟩⟩ := rl.one
          obtain ⟨va, v1, vb, fa, f1, fb, e1, e2, e3, r2, r3, r4⟩ := r1.parts hy
          have hl := r1.length
          subst e1 e3
          refine ⟨a, _, i, k, v1, rfl, rfl, e, hb.1, hb.2, by rw [hl]; exact hk, by rw [← e2]; simp, ?_⟩
          rw [erase_mid e2]
          rw [erase_parts] at q
          have w' : WS G H (a :: ((fa ++ (f1 ++ fb)) ++ [])) := w
          have nd := (List.nodup_cons.mp w'.nd).2
          obtain ⟨x, kk⟩ := wr (o := .lst (va ++ vb)) (gs := (fa ++ fb) ++ f1) w (fun b m => by
            simp only [List.mem_append] at m ⊢
            rcases m with (z | z) | z <;> simp [z]) (by
            simp only [List.append_nil, List.nodup_append, List.mem_append] at nd ⊢
            grind)
          exact q v1 G _ (a :: (fa ++ fb)) f1 x ⟨a, va ++ vb, fa ++ fb, rfl, rfl, upd_same, (r2.append r4).mono (Le.refl G) fun b m => kk b (by
            simp only [List.mem_append] at m ⊢
            rcases m with z | z <;> simp [z])⟩ (r3.mono (Le.refl G) fun b m => kk b (by simp [m]))
    · cases h
  all_goals cases h
theorem ok_popK (w : WS G H (f0 ++ g)) (rd : RepD K ct G H d v f0) (rl : RepL K ct G H ds vs g) (h : mPopK d ds = some (d', u)) (q : MW K ct G H (f0 ++ g) v d' u Q) : rPopKQ v vs H Q := by
  unfold mPopK at h
  split at h
  · rename_i ks l kd
    cases hk : keyOf kd with
    | none => rw [hk] at h; cases h
    | some k =>
      rw [hk] at h
      dsimp only [Option.bind] at h
      cases hi : ks.findIdx? fun j => decide (j = k) with
      | none => rw [hi] at h; cases h
      | some i =>
        rw [hi] at h
        dsimp only [Option.bind] at h
        by_cases hd : dupAt ks i k = true
        · rw [if_pos hd] at h; cases h
        · rw [if_neg hd] at h
          have hd' : dupAt ks i k = false := by simpa using hd
          cases hy : l[i]? with
          | none => rw [hy] at h; cases h
          | some y =>
            rw [hy] at h
            cases h
            obtain ⟨a, xs, fl, rfl, rfl, e, ll, r1⟩ := rd
            obtain ⟨z, rfl, rz⟩ := rl.one
            have ez := key_v rz hk
            subst ez
            obtain ⟨va, v1, vb, fa, f1, fb, e1, e2, e3, r2, r3, r4⟩ := r1.parts hy
            have hl := r1.length
            have hx : xs[i]? = some v1 := by rw [e1, ← e2]; simp
            refine ⟨a, k, v1, _, rfl, rfl, e, findIdx_val hi hx, ?_⟩
            rw [drop_old hi hd' (by rw [hl]; exact ll)]
            have ex : xs.eraseIdx i = va ++ vb := by rw [e1]; exact erase_mid e2
            rw [ex]
            have el : l.eraseIdx i = l.take i ++ l.drop (i + 1) := erase_parts
            subst e3
            have w' : WS G H (a :: ((fa ++ (f1 ++ fb)) ++ g)) := w
            have nd := (List.nodup_cons.mp w'.nd).2
            obtain ⟨x, kk⟩ := wr (o := .dK ((ks.eraseIdx i).zip (va ++ vb))) (gs := (fa ++ fb) ++ f1) w (fun b m => by
              simp only [List.mem_append] at m ⊢
              rcases m with (z | z) | z <;> simp [z]) (by
              simp only [List.nodup_append, List.mem_append] at nd ⊢
              grind)
            refine q v1 G _ (a :: (fa ++ fb)) f1 x ⟨a, va ++ vb, fa ++ fb, rfl, rfl, upd_same, ?_, ?_⟩ (r3.mono (Le.refl G) fun b m => kk b (by simp [m]))
            · have hi1 : i < ks.length := (List.findIdx?_eq_some_iff_getElem.mp hi).1
              rw [List.length_eraseIdx_of_lt hi1, List.length_eraseIdx_of_lt (by omega), ll]
            · rw [el]
              exact (r2.append r4).mono (Le.refl G) fun b m => kk b (by
                simp only [List.mem_append] at m ⊢
                rcases m with z | z <;> simp [z])
  all_goals cases h
theorem ok_clearL (w : WS G H (f0 ++ g)) (rd : RepD K ct G H d v f0) (rl : RepL K ct G H ds vs g) (h : mClearL d ds = some (d', u)) (q : MW K ct G H (f0 ++ g) v d' u Q) : rClear v vs H Q := by
  unfold mClearL at h
  split at h
  · cases h
    obtain ⟨a, xs, fl, rfl, rfl, e, r1⟩ := rd
    obtain ⟨rfl, rfl⟩ := rl
    exact ⟨a, xs, rfl, rfl, e, wr_lst (gs := []) w (fun b m => by cases m) List.nodup_nil RepL.nilr q⟩
  all_goals cases h
theorem ok_clearD (w : WS G H (f0 ++ g)) (rd : RepD K ct G H d v f0) (rl : RepL K ct G H ds vs g) (h : mClearD d ds = some (d', u)) (q : MW K ct G H (f0 ++ g) v d' u Q) : rClearDQ v vs H Q := by
  unfold mClearD at h
  split at h
  · cases h
    obtain ⟨a, xs, fl, rfl, rfl, e, ll, r1⟩ := rd
    obtain ⟨rfl, rfl⟩ := rl
    exact ⟨a, _, rfl, rfl, e, wr_dct (ks := []) (gs := []) w (fun b m => by cases m) List.nodup_nil rfl RepL.nilr q⟩
  all_goals cases h
theorem ok_extend (w : WS G H (f0 ++ g)) (rd : RepD K ct G H d v f0) (rl : RepL K ct G H ds vs g) (h : mExtend d ds = some (d', u)) (q : MW K ct G H (f0 ++ g) v d' u Q) : rExtend v vs H Q := by
  unfold mExtend at h
  split at h
  · split at h
    · rename_i hl
      cases h
      obtain ⟨a, xs, fl, rfl, rfl, e, r1⟩ := rd
      obtain ⟨y, rfl, ry⟩ := rl.one
      obtain ⟨b, ys, gl, rfl, rfl, e', r2⟩ := ry
      have w' : WS G H (a :: (fl ++ b :: gl)) := w
      have nd := (List.nodup_cons.mp w'.nd).2
      refine ⟨a, b, xs, ys, rfl, rfl, e, e', by rw [r1.length, r2.length]; exact lim_line' hl, wr_lst (gs := fl ++ gl) w (fun c m => ?_) ?_ (r1.append r2) q⟩
      · simp only [List.mem_append, List.mem_cons] at m ⊢
        rcases m with z | z <;> simp [z]
      · simp only [List.nodup_append, List.nodup_cons, List.mem_cons] at nd ⊢
        grind
    · cases h
  all_goals cases h
theorem ok_setI (w : WS G H (f0 ++ g)) (rd : RepD K ct G H d v f0) (rl : RepL K ct G H ds vs g) (h : mSetI d ds = some (d', u)) (q : MW K ct G H (f0 ++ g) v d' u Q) : rSetIQ v vs H Q := by
  unfold mSetI at h
  split at h
  · rename_i l i x
    cases hk : ixN l.length i with
    | none => rw [hk] at h; cases h
    | some k =>
      rw [hk] at h
      cases h
      obtain ⟨a, xs, fl, rfl, rfl, e, r1⟩ := rd
      obtain ⟨z, y, f, g', rfl, rfl, ⟨rfl, rfl⟩, ry⟩ := rl.two
      have hlt := ixN_bound hk
      obtain ⟨va, v1, vb, fa, f1, fb, e1, e2, e3, r2, r3, r4⟩ := r1.parts (List.getElem?_eq_getElem hlt)
      refine ⟨_, y, rfl, .inl ⟨a, xs, i, k, rfl, rfl, e, by rw [r1.length]; exact hk, ?_⟩⟩
      subst e1 e3
      rw [set_mid e2]
      rw [set_parts hlt] at q
      have w' : WS G H (a :: ((fa ++ (f1 ++ fb)) ++ ([] ++ g'))) := w
      have nd := (List.nodup_cons.mp w'.nd).2
      refine wr_lst (gs := fa ++ (g' ++ fb)) w (fun b m => ?_) ?_ (r2.append (RepL.con ry r4)) q
      · simp only [List.mem_append] at m ⊢
        rcases m with z | z | z <;> simp [z]
      · rw [List.nil_append] at nd
        exact nd3 nd
  · rename_i ks l kd x
    split at h
    · rename_i hl
      cases hk : keyOf kd with
      | none => rw [hk] at h; cases h
      | some k =>
        rw [hk] at h
        dsimp only [Option.bind] at h
        obtain ⟨a, xs, fl, rfl, rfl, e, ll, r1⟩ := rd
        obtain ⟨z, y, f, g', rfl, rfl, rz, ry⟩ := rl.two
        have ez := key_v rz hk
        subst ez
        have hz : (ks.zip xs).length < sizeLine := by
          rw [List.length_zip, r1.length, ← ll, Nat.min_self]
          exact lim_line hl
        have hxl : ks.length = xs.length := by rw [r1.length]; exact ll
        refine ⟨_, y, rfl, .inr ⟨a, _, rfl, .inl ⟨_, k, e, rfl, hz, rfl⟩, ?_⟩⟩
        cases hi : ks.findIdx? fun j => decide (j = k) with
        | none =>
          rw [hi] at h
          cases h
          rw [put_new hi hxl]
          have w' : WS G H (a :: (fl ++ (f ++ g'))) := w
          have nd := (List.nodup_cons.mp w'.nd).2
          refine wr_dct (gs := fl ++ g') w (fun b m => ?_) ?_ (by simp [ll]) (r1.append (RepL.sing ry)) q
          · simp only [List.mem_append] at m ⊢
            rcases m with z | z <;> simp [z]
          · simp only [List.nodup_append, List.mem_append] at nd ⊢
            grind
        | some i =>
          rw [hi] at h
          dsimp only at h
          by_cases hd : dupAt ks i k = true
          · rw [if_pos hd] at h; cases h
          · rw [if_neg hd] at h
            cases h
            have hlt : i < l.length := by rw [← ll]; exact (List.findIdx?_eq_some_iff_getElem.mp hi).1
            obtain ⟨va, v1, vb, fa, f1, fb, e1, e2, e3, r2, r3, r4⟩ := r1.parts (List.getElem?_eq_getElem hlt)
            rw [put_old hi (by simpa using hd) hxl]
            have ex : xs.set i y = va ++ y :: vb := by rw [e1]; exact set_mid e2
            rw [ex]
            rw [set_parts hlt] at q
            subst e3
            have w' : WS G H (a :: ((fa ++ (f1 ++ fb)) ++ (f ++ g'))) := w
            have nd := (List.nodup_cons.mp w'.nd).2
            refine wr_dct (gs := fa ++ (g' ++ fb)) w (fun b m => ?_) ?_ (by rw [ll, ← set_parts (x := x) hlt, List.length_set]) (r2.append (RepL.con ry r4)) q
            · simp only [List.mem_append] at m ⊢
              rcases m with z | z | z <;> simp [z]
            · simp only [List.nodup_append, List.mem_append] at nd ⊢
              grind
    · cases h
  all_goals cases h
theorem ok_setF {fl : Str} (w : WS G H (f0 ++ g)) (rd : RepD K ct G H d v f0) (rl : RepL K ct G H ds vs g) (h : mSetF fl d ds = some (d', u)) (q : MW K ct G H (f0 ++ g) v d' u Q) : rSetFQ ct fl v vs H Q := by
  unfold mSetF at h
  split at h
  · rename_i c fns l x
    split at h
    · rename_i hl
      obtain ⟨a, C, dx, xs, f, rfl, rfl, hc, e, ll, r1⟩ := rd
      obtain ⟨y, rfl, ry⟩ := rl.one
      have hxl : fns.length = xs.length := by rw [r1.length]; exact ll
      refine ⟨y, a, C, dx, _, rfl, rfl, e, ⟨c, hc, hl.2⟩, by rw [List.length_zip, r1.length, ← ll, Nat.min_self]; exact hl.1, ?_⟩
      have fin : ∀ (fns' : List Str) (l' : List D) (xs' : List V) (gs : List Addr), fns'.length = l'.length → RepL K ct G H l' xs' gs → (∀ b, b ∈ gs → b ∈ f ++ g) → gs.Nodup → MW K ct G H ((a :: f) ++ g) (.ref a) (.ins true c fns' l') .non Q → Q .non (upd H a (.ins C dx (fns'.zip xs'))) := by
        intro fns' l' xs' gs hl' r' hs nd q'
        obtain ⟨xt, k⟩ := wr (o := .ins C dx (fns'.zip xs')) w hs nd
        exact q' .non G _ (a :: gs) [] (by rw [List.append_nil]; exact xt) ⟨a, C, dx, xs', gs, rfl, rfl, hc, upd_same, hl', r'.mono (Le.refl G) fun b m => k b (hs b m)⟩ ⟨rfl, rfl⟩
      have w' : WS G H (a :: (f ++ g)) := w
      have nd := (List.nodup_cons.mp w'.nd).2
      cases hi : fns.findIdx? fun j => decide (j = fl) with
      | none =>
        rw [hi] at h
        cases h
        rw [putF_new hi hxl]
        exact fin _ _ _ (f ++ g) (by simp [ll]) (r1.append (RepL.sing ry)) (fun b m => m) nd q
      | some i =>
        rw [hi] at h
        cases h
        have hlt : i < l.length := by rw [← ll]; exact (List.findIdx?_eq_some_iff_getElem.mp hi).1
        obtain ⟨va, v1, vb, fa, f1, fb, e1, e2, e3, r2, r3, r4⟩ := r1.parts (List.getElem?_eq_getElem hlt)
        rw [putF_old hi hxl]
        have ex : xs.set i y = va ++ y :: vb := by rw [e1]; exact set_mid e2
        rw [ex]
        rw [set_parts hlt] at q
        subst e3
        refine fin _ _ _ (fa ++ (g ++ fb)) (by rw [ll, ← set_parts (x := x) hlt, List.length_set]) (r2.append (RepL.con ry r4)) (fun b m => ?_) (nd3 nd) q
        simp only [List.mem_append] at m ⊢
        rcases m with z | z | z <;> simp [z]
    · cases h
  all_goals cases h
theorem ok_insPop (w : WS G H (f0 ++ g)) (rd : RepD K ct G H d v f0) (rl : RepL K ct G H ds vs g) (h : mInsPop d ds = some (d', u)) (q : MW K ct G H (f0 ++ g) v d' u Q) : rInsPop v vs H Q := by
  unfold mInsPop at h
  split at h
  · rename_i i j
    obtain ⟨z1, z2, f1, f2, rfl, rfl, ⟨rfl, rfl⟩, ⟨rfl, rfl⟩⟩ := rl.two
    cases hp : mPopAt d [.int j] with
    | none => rw [hp] at h; cases h
    | some t =>
      rw [hp] at h
      have h' : mInsert t.1 [.int i, t.2] = some (d', u) := h
      have rj : RepL K ct G H [.int j] [.int j] [] := ⟨.int j, [], [], [], rfl, rfl, ⟨rfl, rfl⟩, rfl, rfl⟩
      show rPopAt v [.int j] H fun u H1 => rInsertQ v [.int i, u] H1 Q
      refine ok_popAt w rd rj hp fun y G' H' f' fu x r1 ru => ?_
      have ri : RepL K ct G' H' [.int i, t.2] [.int i, y] fu := ⟨.int i, [y], [], fu, rfl, rfl, ⟨rfl, rfl⟩, y, [], fu, [], rfl, by simp, ru, rfl, rfl⟩
      exact ok_insert x.ws r1 ri h' fun y2 G2 H2 g1 g2 x2 r2 ru2 => q y2 G2 H2 g1 g2 (x.trans x2) r2 ru2
  all_goals cases h
theorem pyL_get : ∀ (l : List D) (j : Nat), (D.pyL l)[j]? = (l[j]?).map D.py
  | [], j => by simp [D.pyL]
  | d :: l, 0 => by simp [D.pyL]
  | d :: l, j + 1 => by simp only [D.pyL, List.getElem?_cons_succ]; exact pyL_get l j
theorem ok_remove (w : WS G H (f0 ++ g)) (rd : RepD K ct G H d v f0) (rl : RepL K ct G H ds vs g) (h : mRemove d ds = some (d', u)) (q : MW K ct G H (f0 ++ g) v d' u Q) : rRemoveQ K v vs H Q := by
  unfold mRemove at h
  split at h
  · rename_i l x
    split at h
    · rename_i hc
      obtain ⟨hp, hlim⟩ := hc
      rw [Bool.and_eq_true] at hp
      obtain ⟨y, rfl, ry⟩ := rl.one
      split at h
      · rename_i j hj
        cases h
        obtain ⟨hjl, he, hno⟩ := List.findIdx?_eq_some_iff_getElem.mp hj
        have hpl : ∀ i (hi : i < l.length), D.pl 8 l[i] = true := by
          intro i hi
          have : ∀ (l : List D), D.plL 8 l = true → ∀ d ∈ l, D.pl 8 d = true := by
            intro l
            induction l with
            | nil => intro _ d m; cases m
            | cons a l ih =>
              intro h d m
              have h' : (D.pl 8 a && D.plL 8 l) = true := h
              rw [Bool.and_eq_true] at h'
              rcases List.mem_cons.mp m with rfl | m
              · exact h'.1
              · exact ih h'.2 d m
          exact this l hp.2 _ (List.getElem_mem hi)
        have keep := rd
        obtain ⟨a, xs, fl, rfl, rfl, e, r1⟩ := rd
        have hx : xs.length = l.length := r1.length
        have w2 : WS G H ((a :: fl) ++ []) := by rw [List.append_nil]; exact w.left
        have rj : RepL K ct G H [.int (j : Int)] [.int (j : Int)] [] := ⟨.int j, [], [], [], rfl, rfl, ⟨rfl, rfl⟩, rfl, rfl⟩
        have hpop : mPopAt (.lst true l) [.int (j : Int)] = some (.lst true (l.eraseIdx j), l[j]) := by
          unfold mPopAt
          dsimp only
          have hl2 := lim_line hlim
          have h64 := line63
          rw [if_pos ⟨by omega, by omega⟩, seqIndex_of (by omega) (by omega)]
          simp [hjl]
        have big := ok_popAt (Q := fun _ H' => Q .non H') w2 keep rj hpop fun z G' H' f' fu x2 r2 ru => by
          have x3 := (XT.letgo x2.ws)
          refine q .non G' H' f' [] ?_ r2 ⟨rfl, rfl⟩
          rw [List.append_nil]
          have x4 := x2.dropR
          exact x4.permL fun b m => by
            rw [List.append_nil] at m
            exact List.mem_append_left _ m
        obtain ⟨a', xs', i', k', y', e1, e2, e3, _, _, hk, hy, hq⟩ := big
        injection e1 with e1
        subst e1
        rw [e] at e3
        cases e3
        cases e2
        have hkj : k' = j := by
          rw [seqIndex_of (by omega) (by rw [hx]; omega)] at hk
          have := Option.some.inj hk
          omega
        subst hkj
        refine ⟨a, xs, y, x.py, D.pyL l, k', l[k'].py, rfl, rfl, e, by rw [hx]; exact lim_line hlim, plL_dp w.le 8 l xs fl hp.2 r1, pl_dp w.le 8 x y g hp.1 ry, pl_shaped (d := .lst true l) (n := 9) (by omega) hp.2, pl_shaped (n := 8) (by omega) hp.1, by rw [pyL_get, List.getElem?_eq_getElem hjl]; rfl, ?_, ?_, hq⟩
        · rw [pl_eqv 8 8 _ _ (hpl k' hjl) hp.1]; exact he
        · intro m z' hm hz
          have hml : m < l.length := by omega
          rw [pyL_get, List.getElem?_eq_getElem hml] at hz
          cases hz
          rw [pl_eqv 8 8 _ _ (hpl m hml) hp.1]
          have := hno m hm
          simpa using this
      · cases h
    · cases h
  all_goals cases h
def mops (K : PySem.W.Frag) (ct : Str → Option Addr) : MO K ct where
  r := moR K ct
  f := moF
  ok := fun o G H d v f0 ds vs g d' u w rd rl h Q q => by
    cases o with
    | append => exact ok_append w rd rl h q
    | insert => exact ok_insert w rd rl h q
    | popL => exact ok_popL w rd rl h q
    | popAt => exact ok_popAt w rd rl h q
    | popK => exact ok_popK w rd rl h q
    | clearL => exact ok_clearL w rd rl h q
    | clearD => exact ok_clearD w rd rl h q
    | extend => exact ok_extend w rd rl h q
    | setI => exact ok_setI w rd rl h q
    | setF f => exact ok_setF w rd rl h q
    | insPop => exact ok_insPop w rd rl h q
    | update => cases h
    | remove => exact ok_remove w rd rl h q
end LD
namespace LD
open PySem PySem.Spec PyProof.Rows L2

/-! ### from the text to the readings -/
section
variable {X : Cx} {ct : Str → Option Addr} {sub : Str → Str → Option Bool} {cf : CfZ X.K ct sub} {P : Pg} {W : WX}
abbrev JE (X : Cx) (cf : CfZ X.K ct sub) (P : Pg) (W : WX) (a : Expr) (e : E) : Prop := PE X a (semE (ops X.K ct sub cf) P W e)
abbrev JA (X : Cx) (cf : CfZ X.K ct sub) (P : Pg) (W : WX) (a : List Expr) (e : EL) : Prop := PA X a (semL (ops X.K ct sub cf) P W e)
abbrev JB (X : Cx) (cf : CfZ X.K ct sub) (P : Pg) (W : WX) (a : Expr) (e : B) : Prop := PT X a (semB (ops X.K ct sub cf) P W e)
variable {a b c : Expr} {ea eb ec : E} {es : List Expr} {el : EL} {pos : Pos}
theorem d_int {i j pos} : JE X cf P W (.Constant (.int i) j pos) (.c (.int i)) := pe_int
theorem d_bl {i j pos} : JE X cf P W (.Constant (.bool i) j pos) (.c (.bl i)) := pe_bl
theorem d_non {j pos} : JE X cf P W (.Constant .none j pos) (.c .non) := pe_non
theorem d_str {i j pos} : JE X cf P W (.Constant (.str i) j pos) (.c (.str i)) := pe_str
theorem d_v (i : Nat) {x : Str} {pos : Pos} (hN : X.N[i]? = some x := by rfl) (hv : Vis X.env.scope x := by first | exact Or.inl rfl | exact Or.inr (Or.inl rfl) | exact Or.inr (Or.inr rfl)) (hd : (x == ("__debug__" : Str)) = false := by decide)
    (hcd : (x == ("__classdict__" : Str)) = false := by decide) : JE X cf P W (.Name x pos) (.v i) := pe_var hN hv hd hcd
theorem d_brw (i : Nat) (h : JE X cf P W a ea) : JE X cf P W a (.brw i ea) := h
theorem d_frz (h : JE X cf P W a ea) : JE X cf P W a (.frz ea) := h
theorem d_nil : JA X cf P W [] .nil := pa_nil
theorem d_cons (h : JE X cf P W a ea) (t : JA X cf P W es el) (hs : starEach (a :: es) X.env = (false, eval a X.env) :: starEach es X.env := by rfl) : JA X cf P W (a :: es) (.cons ea el) := pa_cons h t hs
/-- two-place operators -/
theorem d_op {o : POp} {r : R2V} {op : Operator} (ho : OpR X (binaryOp op) r) (hr : opR X.K ct o = r2 r) (ha : JE X cf P W a ea) (hb : JE X cf P W b eb) : JE X cf P W (.BinOp a op b pos) (.prim o (.cons ea (.cons eb .nil))) := by
  refine ⟨fun pins s σ H Q I h => ?_⟩
  refine wpAny_BinOp (binT (R := fun x y H2 => opR X.K ct o [x, y] H2 Q) ha hb I h fun v u s2 x y H2 I2 rx ry q => ?_)
  rw [hr] at q
  obtain ⟨x', y', e, q⟩ := q
  cases e
  exact ho pins s2 σ H2 x y v u Q I2 rx ry q
theorem opr_addQ : OpR X (binaryOp .Add) (rAddQ X.K) := OpR.or op_add (OpR.or op_add_str (OpR.or op_catS op_catA))
theorem opr_mulQ : OpR X (binaryOp .Mult) (rMulQ X.K) := OpR.or op_mul op_rep
theorem d_add (ha : JE X cf P W a ea) (hb : JE X cf P W b eb) : JE X cf P W (.BinOp a .Add b pos) (.prim .add (.cons ea (.cons eb .nil))) := d_op opr_addQ rfl ha hb
theorem d_sub (ha : JE X cf P W a ea) (hb : JE X cf P W b eb) : JE X cf P W (.BinOp a .Sub b pos) (.prim .sub (.cons ea (.cons eb .nil))) := d_op op_sub rfl ha hb
theorem d_mul (ha : JE X cf P W a ea) (hb : JE X cf P W b eb) : JE X cf P W (.BinOp a .Mult b pos) (.prim .mul (.cons ea (.cons eb .nil))) := d_op opr_mulQ rfl ha hb
theorem d_mod (ha : JE X cf P W a ea) (hb : JE X cf P W b eb) : JE X cf P W (.BinOp a .Mod b pos) (.prim .mod (.cons ea (.cons eb .nil))) := d_op op_mod rfl ha hb
theorem d_fdiv (ha : JE X cf P W a ea) (hb : JE X cf P W b eb) : JE X cf P W (.BinOp a .FloorDiv b pos) (.prim .fdiv (.cons ea (.cons eb .nil))) := d_op op_fdivW rfl ha hb
theorem d_pow (ha : JE X cf P W a ea) (hb : JE X cf P W b eb) : JE X cf P W (.BinOp a .Pow b pos) (.prim .pow (.cons ea (.cons eb .nil))) := d_op op_pow rfl ha hb
theorem d_shl (ha : JE X cf P W a ea) (hb : JE X cf P W b eb) : JE X cf P W (.BinOp a .LShift b pos) (.prim .shl (.cons ea (.cons eb .nil))) := d_op op_shl rfl ha hb
theorem d_shr (ha : JE X cf P W a ea) (hb : JE X cf P W b eb) : JE X cf P W (.BinOp a .RShift b pos) (.prim .shr (.cons ea (.cons eb .nil))) := d_op op_shr rfl ha hb
theorem d_band (ha : JE X cf P W a ea) (hb : JE X cf P W b eb) : JE X cf P W (.BinOp a .BitAnd b pos) (.prim .band (.cons ea (.cons eb .nil))) := d_op op_and rfl ha hb
theorem d_neg (ha : JE X cf P W a ea) : JE X cf P W (.UnaryOp .USub a pos) (.prim .neg (.cons ea .nil)) := by
  refine ⟨fun pins s σ H Q I h => ?_⟩
  refine UnaryOp_ (thn (ha.run pins s σ H _ I h) fun v s1 hh => ?_)
  obtain ⟨x, H1, I1, r1, q1⟩ := hh
  obtain ⟨x', e, q⟩ := q1
  cases e
  exact un_neg pins s1 σ H1 x v Q I1 r1 q
/-- comparisons -/
theorem d_cmp {o : POp} {r : R2V} {op : CmpOp} (ho : OpR X (compareOp op) r) (hr : opR X.K ct o = r2 r) (ha : JE X cf P W a ea) (hb : JE X cf P W b eb) (hm : behindInMarks op b = false) : JE X cf P W (.Compare a [op] [b] pos) (.prim o (.cons ea (.cons eb .nil))) := by
  refine ⟨fun pins s σ H Q I h => ?_⟩
  refine wpAny_Compare1 (binT (R := fun x y H2 => opR X.K ct o [x, y] H2 Q) ha hb I h fun v u s2 x y H2 I2 rx ry q => ?_) hm
  rw [hr] at q
  obtain ⟨x', y', e, q⟩ := q
  cases e
  exact ho pins s2 σ H2 x y v u Q I2 rx ry q
theorem op_leR : OpR X (compareOp .LtE) leR := op_le
theorem d_chain (ha : JE X cf P W a ea) (hb : JE X cf P W b eb) (hc : JE X cf P W c ec) (hm : lastMarks [.LtE, .LtE] [b, c] = false := by with_unfolding_all rfl) : JE X cf P W (.Compare a [.LtE, .LtE] [b, c] pos) (.chain ea eb ec) := pe_chain op_leR op_leR ha hb hc hm
theorem t_chain (ha : JE X cf P W a ea) (hb : JE X cf P W b eb) (hc : JE X cf P W c ec) (hm : lastMarks [.LtE, .LtE] [b, c] = false := by with_unfolding_all rfl) : JB X cf P W (.Compare a [.LtE, .LtE] [b, c] pos) (.e (.chain ea eb ec)) := pt_chain op_leR op_leR ha hb hc hm
theorem d_tcmp {o : POp} {r : R2V} {op : CmpOp} (ho : OpR X (compareOp op) r) (hr : opR X.K ct o = r2 r) (ha : JE X cf P W a ea) (hb : JE X cf P W b eb) (hm : behindInMarks op b = false) : JB X cf P W (.Compare a [op] [b] pos) (.e (.prim o (.cons ea (.cons eb .nil)))) := by
  refine ⟨fun pins s σ H Q I h => ?_⟩
  refine wpAny_isTrue_Compare1 (thn (ha.run pins s σ H _ I h) fun v s1 hh => ?_) hm
  obtain ⟨x, H1, I1, r1, q1⟩ := hh
  refine thn (hb.run pins s1 σ H1 _ I1 q1) fun u s2 hh => ?_
  obtain ⟨y, H2, I2, r2', q2⟩ := hh
  have q2' : opR X.K ct o [x, y] H2 (fun z H3 => ∃ k, z = .bl k ∧ Q k H3) := q2
  rw [hr] at q2'
  obtain ⟨x', y', e, q3⟩ := q2'
  cases e
  refine thn (ho pins s2 σ H2 x y v u _ I2 r1 r2' q3) fun d s3 hh => ?_
  obtain ⟨z, H3, I3, r3, k, e, q4⟩ := hh
  subst e
  cases r3
  exact wpAny_truthy_bool ⟨H3, I3, q4⟩
theorem evr_run {pins : List (Addr × Obj)} {σ : L2.St} {H : Hp} {s : Shared} (I : Inv X pins σ H s) {A : Around} {F : V → V → Prop} (hu : A.units < cLine) (ih : ∀ x y v u, F x y → RelV x v → RelV y u → SeqAt.EqP X.prog X.w A.in1 s v u true) {x y : V} {v u : Value}
    (h : (∃ a b xs ys, x = .ref a ∧ y = .ref b ∧ SqL X.K H a xs ∧ SqL X.K H b ys ∧ Paired F xs ys) ∨
      (∃ a b xs ys, x = .ref a ∧ y = .ref b ∧ SqT X.K H a xs ∧ SqT X.K H b ys ∧ Paired F xs ys) ∨
      ∃ a b ks ls, x = .ref a ∧ y = .ref b ∧ Rd H a (.dK ks) ∧ Rd H b (.dK ls) ∧ ks.length = ls.length ∧ ∀ p ∈ ks, ∃ u, valV ls p.1 = some u ∧ F p.2 u)
    (rx : RelV x v) (ry : RelV y u) (E Q : Value → Shared → Prop) (q : Q (.bool true) s) : wpAny (model X.prog X.w) A (richCompare .Eq v u) Q E s := by
  rcases h with ⟨a, b, xs, ys, rfl, rfl, ha, hb, hp⟩ | ⟨a, b, xs, ys, rfl, rfl, ha, hb, hp⟩ | ⟨a, b, ks, ls, rfl, rfl, ha, hb, hl, hp⟩
  · obtain rfl : v = Value.ref a := rx
    obtain rfl : u = Value.ref b := ry
    obtain ⟨is, r1, p1, _⟩ := I.list ha
    obtain ⟨js, r2, p2, _⟩ := I.list hb
    have sz : is.toArray.size = js.toArray.size := by rw [List.size_toArray, List.size_toArray, ← r1.length, ← r2.length]; exact Paired.length hp
    refine SeqAt.rcP_lists (e := fun _ => true) p1.isList p2.isList sz hu (fun j h1 h2 => ?_) E Q ?_
    · simpa using items_run ih hp r1 r2 j (by simpa using h1) (by simpa using h2)
    · rw [show ((List.range is.toArray.size).all fun _ => true) = true from List.all_eq_true.mpr fun _ _ => rfl]
      exact q
  · obtain rfl : v = Value.ref a := rx
    obtain rfl : u = Value.ref b := ry
    obtain ⟨is, r1, p1, _⟩ := I.tuple ha
    obtain ⟨js, r2, p2, _⟩ := I.tuple hb
    have sz : is.toArray.size = js.toArray.size := by rw [List.size_toArray, List.size_toArray, ← r1.length, ← r2.length]; exact Paired.length hp
    refine SeqAt.rcIn_tuples (e := fun _ => true) p1 p2 hu (fun j h1 h2 => ?_) ?_
    · have k : SeqAt.EqP X.prog X.w A.in1 s is[j] js[j] true := items_run ih hp r1 r2 j (by simpa using h1) (by simpa using h2)
      have k2 : SeqAt.EqIn X.prog X.w A.in1 s is[j] js[j] true := k
      simpa using k2
    · rw [show ((List.range (min is.toArray.size js.toArray.size)).all fun _ => true) = true from List.all_eq_true.mpr fun _ _ => rfl, sz]
      simpa using q
  · obtain rfl : v = Value.ref a := rx
    obtain rfl : u = Value.ref b := ry
    obtain ⟨_, n1, va, r1, d1⟩ := dk_rd I.hok ha
    obtain ⟨_, n2, vb, r2, d2⟩ := dk_rd I.hok hb
    refine PySem.W.rcP_dicts (knd := mixKind X.prog X.w) (r := true) n1 n2 d1 d2 hu (fun _ => hits_run ih r2 r1 hp) E Q ?_
    have e : va.length = vb.length := by rw [← r1.length, ← r2.length]; exact hl
    rw [show (va.length == vb.length && true) = true from by rw [e]; simp]
    exact q
theorem evx_run {pins : List (Addr × Obj)} {σ : L2.St} {H : Hp} {s : Shared} (I : Inv X pins σ H s) : ∀ (n : Nat) (A : Around), A.units + n < cLine → ∀ (x y : V) (v u : Value), EVX X.K H n x y → RelV x v → RelV y u → SeqAt.EqP X.prog X.w A s v u true
  | 0, A, hu, x, y, v, u, h, rx, ry => by
    have e := eqAt_V (A := A) (s := s) rx ry h.1 h.2.1
    rw [h.2.2] at e
    exact e.eqP
  | n + 1, A, hu, x, y, v, u, h, rx, ry => by
    rcases h with h | h
    · have e := eqAt_V (A := A) (s := s) rx ry h.1 h.2.1
      rw [h.2.2] at e
      exact e.eqP
    · have step := evr_run I (A := A) (by omega) (evx_run I n A.in1 (by show A.units + 1 + n < cLine; omega)) h rx ry
      obtain ⟨a, b, rfl, rfl⟩ : ∃ a b, x = .ref a ∧ y = .ref b := by
        rcases h with ⟨a, b, _, _, e1, e2, _⟩ | ⟨a, b, _, _, e1, e2, _⟩ | ⟨a, b, _, _, e1, e2, _⟩ <;> exact ⟨a, b, e1, e2⟩
      obtain rfl : v = Value.ref a := rx
      obtain rfl : u = Value.ref b := ry
      by_cases e : a = b
      · subst e
        exact (SeqAt.EqAt.same _).eqP
      · exact SeqAt.eqP_refs e step
theorem op_eqT (hu : X.A.units + 64 < cLine) : OpR X (compareOp .Eq) (rEqT X.K) := by
  intro pins s σ H x y v u Q I rx ry h
  obtain ⟨h, hn, q⟩ := h
  rcases h with h | h
  · exact absurd h.1 hn
  · exact evr_run I (A := X.A) (by omega) (evx_run I 19 X.A.in1 (by show X.A.units + 1 + 19 < cLine; omega)) h rx ry _ _ ⟨.bl true, H, I, rfl, q⟩
theorem hitsA_run {A : Around} {s : Shared} {K : PySem.W.Frag} {H : Hp} {P : Program} {w : World} {ls : List (Key × V)} {vb : List (Key × Value)} (rb : KV ls vb) {ks : List (Key × V)} {va : List (Key × Value)}
    (ra : KV ks va) : (∀ p ∈ ks, ∃ u, valV ls p.1 = some u ∧ EVX K H 0 p.2 u) → PySem.W.KeqHits A s vb va true := by
  unfold KV at ra
  induction ra with
  | nil => intro _; exact .nil
  | @cons p q ps qs h t k =>
    intro hp
    obtain ⟨h1, h2⟩ := h
    obtain ⟨u, e, f⟩ := hp p List.mem_cons_self
    have rr : RelO (some u) (valueAt vb p.1) := by rw [← e]; exact rb.val p.1
    obtain ⟨y, hy, ry⟩ := rr.some_of
    obtain ⟨key, v⟩ := q
    have h1' : p.1 = key := h1
    rw [h1'] at hy
    have e1 := eqAt_V (A := A) (s := s) h2 ry f.1 f.2.1
    rw [f.2.2] at e1
    show PySem.W.KeqHits A s vb ((key, v) :: qs) (true && true)
    exact .hit hy e1 (k fun p' hm => hp p' (List.mem_cons_of_mem _ hm))
theorem op_neT (hu : X.A.units + 64 < cLine) : OpR X (compareOp .NotEq) (rNeT X.K) := by
  intro pins s σ H x y v u Q I rx ry h
  obtain ⟨⟨a, b, ks, ls, rfl, rfl, ha, hb, hl, hp⟩, q⟩ := h
  obtain rfl : v = Value.ref a := rx
  obtain rfl : u = Value.ref b := ry
  obtain ⟨_, n1, va, r1, d1⟩ := dk_rd I.hok ha
  obtain ⟨_, n2, vb, r2, d2⟩ := dk_rd I.hok hb
  refine PySem.W.keq_ne (knd := mixKind X.prog X.w) (r := true) n1 n2 d1 d2 (by omega) (fun _ => hitsA_run (K := X.K) (H := H) (P := X.prog) (w := X.w) r2 r1 hp) ?_
  have e : va.length = vb.length := by rw [← r1.length, ← r2.length]; exact hl
  rw [show (!(va.length == vb.length && true)) = false from by rw [e]; simp]
  exact ⟨.bl false, H, I, rfl, q⟩
theorem opr_eqQ (hu : X.A.units + 64 < cLine) : OpR X (compareOp .Eq) (rEqQ X.K) := OpR.or op_eq (OpR.or (op_eqD hu) (op_eqT hu))
theorem opr_neQ (hu : X.A.units + 64 < cLine) : OpR X (compareOp .NotEq) (rNeQ X.K) := OpR.or op_ne (OpR.or (op_neD hu) (op_neT hu))
theorem opr_din (hu : X.A.units + 1 < cLine) : OpR X (compareOp .In) (fun x y H Q => ∃ a o, y = .ref a ∧ DGet H a x o ∧ Q (.bl o.isSome) H) := by
  intro pins s σ H x y v u Q I rx ry h
  obtain ⟨a, o, rfl, g, q⟩ := h
  obtain rfl : u = Value.ref a := ry
  exact d_in hu I g rx fun s3 I3 => ⟨.bl o.isSome, H, I3, rfl, q⟩
theorem opr_dnotin (hu : X.A.units + 1 < cLine) : OpR X (compareOp .NotIn) (fun x y H Q => ∃ a o, y = .ref a ∧ DGet H a x o ∧ Q (.bl (!o.isSome)) H) := by
  intro pins s σ H x y v u Q I rx ry h
  obtain ⟨a, o, rfl, g, q⟩ := h
  obtain rfl : u = Value.ref a := ry
  exact d_notIn hu I g rx fun s3 I3 => ⟨.bl (!o.isSome), H, I3, rfl, q⟩
theorem opr_inQ (hu : X.A.units + 65 < cLine) : OpR X (compareOp .In) (rInQ X.K) := OpR.or op_in_sign (OpR.or op_in_seq (OpR.or (op_inD hu) (opr_din (by omega))))
theorem opr_notinQ (hu : X.A.units + 65 < cLine) : OpR X (compareOp .NotIn) (rNotInQ X.K) := OpR.or op_notIn_sign (OpR.or op_notIn_seq (OpR.or (op_notInD hu) (opr_dnotin (by omega))))
theorem hu65 {A : Around} {k : Nat} (hr : Room k A) : A.units + 65 < cLine := by have := hr.un; omega
theorem hu64 {A : Around} {k : Nat} (hr : Room k A) : A.units + 64 < cLine := by have := hr.un; omega
variable {kr : Nat}
theorem d_eq (hr : Room kr X.A) (ha : JE X cf P W a ea) (hb : JE X cf P W b eb) : JE X cf P W (.Compare a [.Eq] [b] pos) (.prim .eq (.cons ea (.cons eb .nil))) := d_cmp (opr_eqQ (hu64 hr)) rfl ha hb (nomark _)
theorem d_ne (hr : Room kr X.A) (ha : JE X cf P W a ea) (hb : JE X cf P W b eb) : JE X cf P W (.Compare a [.NotEq] [b] pos) (.prim .ne (.cons ea (.cons eb .nil))) := d_cmp (opr_neQ (hu64 hr)) rfl ha hb (nomark _)
theorem d_lt (ha : JE X cf P W a ea) (hb : JE X cf P W b eb) : JE X cf P W (.Compare a [.Lt] [b] pos) (.prim .lt (.cons ea (.cons eb .nil))) := d_cmp op_lt rfl ha hb (nomark _)
theorem d_le (ha : JE X cf P W a ea) (hb : JE X cf P W b eb) : JE X cf P W (.Compare a [.LtE] [b] pos) (.prim .le (.cons ea (.cons eb .nil))) := d_cmp op_le rfl ha hb (nomark _)
theorem d_gt (ha : JE X cf P W a ea) (hb : JE X cf P W b eb) : JE X cf P W (.Compare a [.Gt] [b] pos) (.prim .gt (.cons ea (.cons eb .nil))) := d_cmp op_gt rfl ha hb (nomark _)
theorem d_ge (ha : JE X cf P W a ea) (hb : JE X cf P W b eb) : JE X cf P W (.Compare a [.GtE] [b] pos) (.prim .ge (.cons ea (.cons eb .nil))) := d_cmp op_ge rfl ha hb (nomark _)
theorem d_in_ (hr : Room kr X.A) (ha : JE X cf P W a ea) (hb : JE X cf P W b eb) (hm : behindInMarks .In b = false := by with_unfolding_all rfl) : JE X cf P W (.Compare a [.In] [b] pos) (.prim .in_ (.cons ea (.cons eb .nil))) := d_cmp (opr_inQ (hu65 hr)) rfl ha hb hm
theorem d_notin (hr : Room kr X.A) (ha : JE X cf P W a ea) (hb : JE X cf P W b eb) (hm : behindInMarks .NotIn b = false := by with_unfolding_all rfl) : JE X cf P W (.Compare a [.NotIn] [b] pos) (.prim .notin (.cons ea (.cons eb .nil))) := d_cmp (opr_notinQ (hu65 hr)) rfl ha hb hm
theorem d_isB (ha : JE X cf P W a ea) (hb : JE X cf P W b eb) : JE X cf P W (.Compare a [.Is] [b] pos) (.prim .isB (.cons ea (.cons eb .nil))) := d_cmp op_is_bl rfl ha hb (nomark _)
theorem d_notB (ha : JE X cf P W a ea) (hb : JE X cf P W b eb) : JE X cf P W (.Compare a [.IsNot] [b] pos) (.prim .notB (.cons ea (.cons eb .nil))) := d_cmp op_isnot_bl rfl ha hb (nomark _)
theorem t_eq (hr : Room kr X.A) (ha : JE X cf P W a ea) (hb : JE X cf P W b eb) : JB X cf P W (.Compare a [.Eq] [b] pos) (.e (.prim .eq (.cons ea (.cons eb .nil)))) := d_tcmp (opr_eqQ (hu64 hr)) rfl ha hb (nomark _)
theorem t_ne (hr : Room kr X.A) (ha : JE X cf P W a ea) (hb : JE X cf P W b eb) : JB X cf P W (.Compare a [.NotEq] [b] pos) (.e (.prim .ne (.cons ea (.cons eb .nil)))) := d_tcmp (opr_neQ (hu64 hr)) rfl ha hb (nomark _)
theorem t_lt (ha : JE X cf P W a ea) (hb : JE X cf P W b eb) : JB X cf P W (.Compare a [.Lt] [b] pos) (.e (.prim .lt (.cons ea (.cons eb .nil)))) := d_tcmp op_lt rfl ha hb (nomark _)
theorem t_le (ha : JE X cf P W a ea) (hb : JE X cf P W b eb) : JB X cf P W (.Compare a [.LtE] [b] pos) (.e (.prim .le (.cons ea (.cons eb .nil)))) := d_tcmp op_le rfl ha hb (nomark _)
theorem t_gt (ha : JE X cf P W a ea) (hb : JE X cf P W b eb) : JB X cf P W (.Compare a [.Gt] [b] pos) (.e (.prim .gt (.cons ea (.cons eb .nil)))) := d_tcmp op_gt rfl ha hb (nomark _)
theorem t_ge (ha : JE X cf P W a ea) (hb : JE X cf P W b eb) : JB X cf P W (.Compare a [.GtE] [b] pos) (.e (.prim .ge (.cons ea (.cons eb .nil)))) := d_tcmp op_ge rfl ha hb (nomark _)
theorem t_in_ (hr : Room kr X.A) (ha : JE X cf P W a ea) (hb : JE X cf P W b eb) (hm : behindInMarks .In b = false := by with_unfolding_all rfl) : JB X cf P W (.Compare a [.In] [b] pos) (.e (.prim .in_ (.cons ea (.cons eb .nil)))) := d_tcmp (opr_inQ (hu65 hr)) rfl ha hb hm
theorem t_notin (hr : Room kr X.A) (ha : JE X cf P W a ea) (hb : JE X cf P W b eb) (hm : behindInMarks .NotIn b = false := by with_unfolding_all rfl) : JB X cf P W (.Compare a [.NotIn] [b] pos) (.e (.prim .notin (.cons ea (.cons eb .nil)))) := d_tcmp (opr_notinQ (hu65 hr)) rfl ha hb hm
theorem t_isB (ha : JE X cf P W a ea) (hb : JE X cf P W b eb) : JB X cf P W (.Compare a [.Is] [b] pos) (.e (.prim .isB (.cons ea (.cons eb .nil)))) := d_tcmp op_is_bl rfl ha hb (nomark _)
theorem t_notB (ha : JE X cf P W a ea) (hb : JE X cf P W b eb) : JB X cf P W (.Compare a [.IsNot] [b] pos) (.e (.prim .notB (.cons ea (.cons eb .nil)))) := d_tcmp op_isnot_bl rfl ha hb (nomark _)
/-- is None, is not None -/
theorem d_isN {j p2} (ha : JE X cf P W a ea) : JE X cf P W (.Compare a [.Is] [.Constant .none j p2] pos) (.prim .isNon (.cons ea .nil)) := by
  refine ⟨fun pins s σ H Q I h => ?_⟩
  refine wpAny_Compare1 (thn (ha.run pins s σ H _ I h) fun v s1 hh => ?_) (nomark _)
  obtain ⟨x, H1, I1, r1, x', e, q⟩ := hh
  cases e
  refine thn ((pe_non (j := j) (pos := p2)).run pins s1 σ H1 (fun y H2 => y = .non ∧ Q (.bl (decide (x = .non))) H2) I1 ⟨rfl, q⟩) fun u s2 hh2 => ?_
  obtain ⟨y, H2, I2, r2, q2⟩ := hh2
  exact op_isN pins s2 σ H2 x y v u Q I2 r1 r2 q2
theorem d_notN {j p2} (ha : JE X cf P W a ea) : JE X cf P W (.Compare a [.IsNot] [.Constant .none j p2] pos) (.prim .notNon (.cons ea .nil)) := by
  refine ⟨fun pins s σ H Q I h => ?_⟩
  refine wpAny_Compare1 (thn (ha.run pins s σ H _ I h) fun v s1 hh => ?_) (nomark _)
  obtain ⟨x, H1, I1, r1, x', e, q⟩ := hh
  cases e
  refine thn ((pe_non (j := j) (pos := p2)).run pins s1 σ H1 (fun y H2 => y = .non ∧ Q (.bl (!decide (x = .non))) H2) I1 ⟨rfl, q⟩) fun u s2 hh2 => ?_
  obtain ⟨y, H2, I2, r2, q2⟩ := hh2
  exact op_notN pins s2 σ H2 x y v u Q I2 r1 r2 q2
end
end LD
namespace LD
open PySem PySem.Spec PyProof.Rows L2
/-! ### what is asked of a caught exception: its class, its fields (with a dict or without) -/
section
open PySem.W PySem.Calls
variable {prog : Program} {w : World} {A : Around} {E : Value → Shared → Prop} {s : Shared} {K : Frag} {x D : Addr} {ox : Obj} {od : Option Obj}
/-- what an own class of exceptions must say -/
structure XcC (K : Frag) (D : Addr) : Prop where
  x : ExcC K D
  t : typeIn K (.ref D) = some (.type "type")
theorem obj_data {name : Str} {a g : Value} (hc : (clsIn K D).isSome = true) (ha : findIn K (.ref D) name = some (some a)) (hg : specialIn K a "__get__" = some (some g)) (ht : takesIn K a = some true) : findObj K D od name = some (.bind g a) := by
  obtain ⟨cd, e⟩ := Option.isSome_iff_exists.mp hc
  simp [findObj, e, ha, hg, ht]
theorem has_cls (h : hasDictIn K D = true) : (clsIn K D).isSome = true := by
  obtain ⟨cd, e, _⟩ := any_some h
  rw [e]
  rfl
theorem exc_cls {Q : Option Value → Shared → Prop} (c : ExcC K D) (X : K.In s.heap) (I : InstAt s.heap x ox D od) (h : Q (some (.ref D)) { s with toks := s.toks + 1 }) : wpAny (model prog w) A (getAttr? (.ref x) "__class__") Q E s := by
  have hf := obj_data (od := od) (has_cls c.hd) c.ha c.hn c.ht
  obtain ⟨hp, g, d, t, os⟩ := s
  have L0 := I.type (M := model prog w)
  have sub : Looks (model prog w) hp (isInstance (.ref x) (.type "BaseException")) true := L0.andThen (looks_subIn X c.hs)
  have n0 : (Value.builtin "BaseException.__getattribute__" == Value.builtin "object.__getattribute__") = false := by decide +kernel
  have n1 : ¬ (onTheHeap (Value.ref D) && Value.builtin "BaseException.__getattribute__" == Value.builtin "object.__getattribute__") = true := by rw [n0, Bool.and_false]; exact Bool.false_ne_true
  unfold getAttr? getAttrBy? getAttrBy
  refine wpAny_bind (wpAny_mkText (wpAny_bind (wpAny_attempt (wpAny_holding (wpAny_bind (L0.at (wpAny_bind ((looks_findIn (M := model prog w) X c.hg).at ?_))))))))
  dsimp only
  rw [if_neg n1]
  unfold getAttrByItsOwn hookBefore
  refine wpAny_bind ?_
  rw [if_pos (show onTheHeap (Value.ref D) = true from rfl)]
  refine (looks_findIn (M := model prog w) X c.hk).at (wpAny_bind (wpAny_attempt (wpAny_holding ?_)))
  unfold callGetattribute
  rw [if_neg (show ¬ (false && onTheHeap (Value.builtin "BaseException.__getattribute__")) = true from by decide)]
  unfold boundAndCalled
  rw [PySem.F.excAttr_ValueError.ga.bind (.ref x)]
  refine wpAny_bind (wpAny_pure (wpAny_call (codeAny_call_builtin PySem.F.excAttr_ValueError.ga.plain PySem.F.entry_bexc_ga ?_)))
  refine @check_slot (model prog w) _ _ ⟨hp, g, d, t + 1, os⟩ "BaseException.__getattribute__" "BaseException" "__getattribute__" (.ref x) [.str "__class__" t] [] _ (by decide +kernel) (by decide +kernel) sub (PySem.F.args_bexc_ga (.ref x) (.str "__class__" t)) ?_
  unfold Builtin.«object.__getattribute__»
  refine wpAny_bind (wpAny_of_eq (a := ((Value.ref x : Value), [Value.str "__class__" t])) (by first | rfl | (simp only [slotArgs]; rfl)) (wpAny_bind (wpAny_pure (wpAny_bind (L0.at (wpAny_bind ((looks_find (M := model prog w) X I hf).at ?_)))))))
  refine wpAny_bind (wpAny_holding (wpAny_call (class_get (s := ⟨hp, g, d, t + 1, os⟩) (ox := ox) (od := od) X I c.hm (wpAny_pure ?_))))
  show wpAny _ _ (handedOut (.ref D)) _ _ _
  rw [handedOut_of (v := .ref D) rfl]
  first
    | exact wpAny_pure (wpAny_pure h)
    | exact wpAny_pure h
    | exact wpAny_pure (wpAny_bind (wpAny_pure (wpAny_pure h)))
theorem kitx_xo (c : ExcC K D) : KitX K (.ref x) (.ref D) (fun h => ∃ ox od, InstAt h x ox D od) where
  ty := fun _ _ _ ⟨_, _, I⟩ => I.type
  it := fun _ _ X _ => by
    obtain ⟨cd, e⟩ := Option.isSome_iff_exists.mp (has_cls c.hd)
    unfold clsIn at e
    split at e
    · rename_i ho
      exact fun _ _ _ _ k q => wpAny_bind (wpAny_loadPart (k _ _ (X _ _ ho)) (wpAny_pure q))
    · cases e
  ne := (handS_kitx_exc (x := x) (ox := ⟨.none, none, .fields #[], #[]⟩) c.hg c.hk c.hs c.hd c.ha c.hn c.ht c.hm).ne
  ca := fun X ⟨_, _, I⟩ k => exc_cls c X I k
end
section
variable {X : Cx} {ct : Str → Option Addr} {sub : Str → Str → Option Bool} {cf : CfZ X.K ct sub} {P : Pg} {W : WX}
variable {a b c : Expr} {ea eb ec : E} {es : List Expr} {el : EL} {pos : Pos} {kr : Nat}

/-! ### items, slices, fields, displays -/
theorem ix_dct (hu : X.A.units + 1 < cLine) : IxR X (fun x y H Q => ∃ a v, x = .ref a ∧ DGet H a y (some v) ∧ Q v H) := by
  intro value slice pins s σ H x y v u Q I rx ry h hs
  obtain ⟨p, w0, rfl, g, q⟩ := h
  obtain rfl : v = Value.ref p := rx
  have hT := dict_typeIs I g
  unfold subscriptTail
  refine wpAny_bind ?_
  rw [getitemInPython_of_ne hT.not_modules]
  refine wpAny_bind (wpAny_specialOf hT PySem.F.slot_dict_getitem.lookup ?_)
  have fin : wpAny (model X.prog X.w) X.A (subscripted slice false (.ref p) u) (fun r s₃ => wpAny (model X.prog X.w) X.A (letTemporaryGo value (.ref p) r >>= fun _ => pure r) (EP X pins σ Q) X.xe s₃) X.xe s := by
    rw [hs]
    exact wpAny_operating (wpAny_mono (d_getItem hu I g ry fun w' s3 I3 rw' => (⟨w0, H, I3, rw', q⟩ : EP X pins σ Q w' s3)) (fun r s₃ h₃ => wpAny_bind (wpAny_letTemporaryGo (wpAny_pure h₃))) fun _ _ x => x)
  first
    | exact wpAny_pure (wpAny_bind fin)
    | exact wpAny_bind (wpAny_pure (wpAny_bind fin))
    | exact wpAny_bind fin
theorem ix_any (hu : X.A.units + 1 < cLine) : IxR X (rIxQ X.K) := IxR.or ix_list (IxR.or ix_tup (IxR.or ix_str (ix_dct hu)))
theorem hu1 {A : Around} {k : Nat} (hr : Room k A) : A.units + 1 < cLine := by have := hr.un; omega
theorem pe_ixq {ta : TE} {tb : TE} (hr : Room kr X.A) (ha : PE X a ta) (hb : PE X b tb) (hs : PlainIx b) : PE X (.Subscript a b pos) (tOp (rIxQ X.K) ta tb) := pe_ix (ix_any (hu1 hr)) ha hb hs
theorem d_ix (hr : Room kr X.A) (ha : JE X cf P W a ea) (hb : JE X cf P W b eb) (hs : PlainIx b := by exact fun _ _ => rfl) : JE X cf P W (.Subscript a b pos) (.prim .ix (.cons ea (.cons eb .nil))) := by
  refine ⟨fun pins s σ H Q I h => ?_⟩
  refine Subscript_ (binT (R := fun x y H2 => opR X.K ct .ix [x, y] H2 Q) ha hb I h fun v u s2 x y H2 I2 rx ry q => ?_)
  obtain ⟨x', y', e, q⟩ := q
  cases e
  exact ix_any (hu1 hr) a b pins s2 σ H2 x y v u Q I2 rx ry q (hs _ _)
theorem slq : SlR X (rSlQ X.K) := SlR.or sl_list (SlR.or sl_str sl_tupA)
theorem sl_at {lo hi : Option Expr} {p2 : Pos} {l u : Option Int} {x : V} {v vl vu : Value} {Q : VK} {pins : List (Addr × Obj)} {s3 : Shared} {σ : L2.St} {H3 : Hp} (I3 : Inv X pins σ H3 s3) (r1 : RelV x v) (pl : IsPart vl l) (pu : IsPart vu u) (q : rSlQ X.K x l u H3 Q) :
    wpAny (model X.prog X.w) X.A (subscriptTail a (.Slice lo hi none p2) v (.ref s3.heap.objs.size)) (EP X pins σ Q) X.xe { s3 with heap := s3.heap.push { cls := .type "slice", data := .fields #[vl, vu, .none] } } := by
  have I4 : Inv X pins σ H3 { s3 with heap := s3.heap.push { cls := .type "slice", data := .fields #[vl, vu, .none] } } := I3.kept (t' := s3.toks) fun b ob q => Heap.get?_push_of_some _ q
  obtain ⟨T, id, hT, ht, hg⟩ := slq pins { s3 with heap := s3.heap.push { cls := .type "slice", data := .fields #[vl, vu, .none] } } σ H3 x v vl vu l u s3.heap.objs.size Q I4 r1 (Heap.IsSliceOf.new ..) pl pu q
  exact tail_any (ops := [.ref s3.heap.objs.size, v]) ht hT hg (by with_unfolding_all rfl)
theorem d_sl11 {p2 : Pos} (ha : JE X cf P W a ea) (hb : JE X cf P W b eb) (hc : JE X cf P W c ec) : JE X cf P W (.Subscript a (.Slice (some b) (some c) none p2) pos) (.prim (.sl true true) (.cons ea (.cons eb (.cons ec .nil)))) := by
  refine ⟨fun pins s σ H Q I h => ?_⟩
  refine Subscript_ (thn (ha.run pins s σ H _ I h) fun v s1 hh => ?_)
  obtain ⟨x, H1, I1, r1, q1⟩ := hh
  refine wpAny_Slice ?_
  rw [evalPart_some]
  refine thn (hb.run pins s1 σ H1 _ I1 q1) fun vl s2 hh => ?_
  obtain ⟨y, H2, I2, r2, q2⟩ := hh
  rw [evalPart_some]
  refine thn (hc.run pins s2 σ H2 _ I2 q2) fun vu s3 hh => ?_
  obtain ⟨z, H3, I3, r3, x', i, j, e, q3⟩ := hh
  cases e
  obtain ⟨t, rfl⟩ := r2
  obtain ⟨t', rfl⟩ := r3
  rw [evalPart_none]
  exact wpAny_pure (sl_at I3 r1 (.int i t) (.int j t') q3)
theorem d_sl10 {p2 : Pos} (ha : JE X cf P W a ea) (hb : JE X cf P W b eb) : JE X cf P W (.Subscript a (.Slice (some b) none none p2) pos) (.prim (.sl true false) (.cons ea (.cons eb .nil))) := by
  refine ⟨fun pins s σ H Q I h => ?_⟩
  refine Subscript_ (thn (ha.run pins s σ H _ I h) fun v s1 hh => ?_)
  obtain ⟨x, H1, I1, r1, q1⟩ := hh
  refine wpAny_Slice ?_
  rw [evalPart_some]
  refine thn (hb.run pins s1 σ H1 _ I1 q1) fun vl s2 hh => ?_
  obtain ⟨y, H2, I2, r2, x', i, e, q3⟩ := hh
  cases e
  obtain ⟨t, rfl⟩ := r2
  rw [evalPart_none]
  exact wpAny_pure (wpAny_pure (sl_at I2 r1 (.int i t) .none q3))
theorem d_sl01 {p2 : Pos} (ha : JE X cf P W a ea) (hb : JE X cf P W b eb) : JE X cf P W (.Subscript a (.Slice none (some b) none p2) pos) (.prim (.sl false true) (.cons ea (.cons eb .nil))) := by
  refine ⟨fun pins s σ H Q I h => ?_⟩
  refine Subscript_ (thn (ha.run pins s σ H _ I h) fun v s1 hh => ?_)
  obtain ⟨x, H1, I1, r1, q1⟩ := hh
  refine wpAny_Slice ?_
  rw [evalPart_none]
  refine wpAny_pure ?_
  rw [evalPart_some]
  refine thn (hb.run pins s1 σ H1 _ I1 q1) fun vl s2 hh => ?_
  obtain ⟨y, H2, I2, r2, x', i, e, q3⟩ := hh
  cases e
  obtain ⟨t, rfl⟩ := r2
  exact wpAny_pure (sl_at I2 r1 .none (.int i t) q3)
theorem d_sl00 {p2 : Pos} (ha : JE X cf P W a ea) : JE X cf P W (.Subscript a (.Slice none none none p2) pos) (.prim (.sl false false) (.cons ea .nil)) := by
  refine ⟨fun pins s σ H Q I h => ?_⟩
  refine Subscript_ (thn (ha.run pins s σ H _ I h) fun v s1 hh => ?_)
  obtain ⟨x, H1, I1, r1, x', e, q1⟩ := hh
  cases e
  refine wpAny_Slice ?_
  rw [evalPart_none]
  exact wpAny_pure (wpAny_pure (wpAny_pure (sl_at I1 r1 .none .none q1)))
/-- o.f -/
structure Na (K : PySem.W.Frag) (ct : Str → Option Addr) (f : Str) : Prop where
  cl : ∀ c C, ct c = some C → isX c = false → Cls K C
  no : ∀ c C, ct c = some C → isX c = false → NoAttr K C f
  xc : ∀ c C, ct c = some C → isX c = true → ExcC K C
  xn : ∀ c C, ct c = some C → isX c = true → PySem.W.findIn K (.ref C) f = some none
theorem xo_at {X : Cx} {pins : List (Addr × Obj)} {σ : L2.St} {H : Hp} {s : Shared} {C a : Addr} {d : Option Addr} (I : Inv X pins σ H s) (r : Rd H a (XO C d a)) : ∃ oe vs, s.heap.get? a = some oe ∧ Zc (.ref C) d oe ∧ oe.data = .fields vs := by
  have q : ObjOk X.prog X.w H s.heap a (XO C d a) := Rd.ok r I.hok
  obtain ⟨⟨oe, e, z, vs, hv⟩, _⟩ := q
  exact ⟨oe, vs, e, z, hv⟩
/-- a caught exception's field -/
theorem xo_fld {X : Cx} {pins : List (Addr × Obj)} {σ : L2.St} {H : Hp} {s : Shared} {C a dd : Addr} {fs : List (Str × V)} {f : Str} {v : V} {ex : Bool} {Q : VK} (I : Inv X pins σ H s) (c : ExcC X.K C) (hno : PySem.W.findIn X.K (.ref C) f = some none) (r : Rd H a (XO C (some dd) a)) (rd : Rd H dd (.xd fs)) (l : fs.lookup f = some v) (q : Q v H) :
    wpAny (model X.prog X.w) X.A (getAttr (.ref a) f ex) (EP X pins σ Q) X.xe s := by
  obtain ⟨oe, vs, ha, hz, hd⟩ := xo_at I r
  have hx : ObjOk X.prog X.w H s.heap dd (.xd fs) := Rd.ok rd I.hok
  obtain ⟨mA, hns, hr⟩ := hx
  obtain ⟨od, ho, hl⟩ := lookIn_ns hns
  obtain ⟨u, hu, ru⟩ := RelO.some_of (v := v) (o := mA f) (by rw [← l]; exact hr f)
  have J : PySem.W.InstAt s.heap a oe C (some od) := ⟨ha, hz.1, by unfold PySem.W.notCls; rw [hd] <;> rfl, by rw [hz.2]; exact ho⟩
  exact HandSPX.exc_get I.kIn J c.hg c.hk c.hs (PySem.W.findObj_own c.hd hno rfl (by rw [hl, hu])) (handed_of ru) ⟨v, H, I.tok _, ru, q⟩
theorem pe_fldq {ta : TE} {f : Str} (na : Na X.K ct f) (ha : PE X a ta) (hb : attributeBase a f X.env (eval a X.env) = eval a X.env) : PE X (.Attribute a f pos) (fun σ H Q => ta σ H fun x H1 => rFldQ ct f x H1 Q) := by
  refine ⟨fun pins s σ H Q I h => ?_⟩
  refine attr_of hb (thn (ha.run pins s σ H _ I h) fun u s1 hh => ?_)
  obtain ⟨x, H1, I1, rx, a, C, dx, fs, v, ex, ea, ⟨c, hc⟩, l, q⟩ := hh
  subst ex
  obtain rfl : u = Value.ref a := rx
  exact getattr_ok I1 ea (na.cl c C hc.1 hc.2) (na.no c C hc.1 hc.2) l fun u2 s2 I2 r2 => ⟨v, H1, I2, r2, q⟩
theorem d_fld {f : Str} (na : Na X.K ct f) (ha : JE X cf P W a ea) (hb : attributeBase a f X.env (eval a X.env) = eval a X.env := by rfl) : JE X cf P W (.Attribute a f pos) (.prim (.fld f) (.cons ea .nil)) := by
  refine ⟨fun pins s σ H Q I h => ?_⟩
  refine attr_of hb (thn (ha.run pins s σ H _ I h) fun u s1 hh => ?_)
  obtain ⟨x, H1, I1, rx, x', e, hq⟩ := hh
  cases e
  rcases hq with ⟨a, C, dx, fs, v, ex, ea, ⟨c, hc⟩, l, q⟩ | ⟨a, C, dd, fs, v, ex, r1, r2, ⟨c, hc⟩, l, q⟩
  · subst ex
    obtain rfl : u = Value.ref a := rx
    exact getattr_ok I1 ea (na.cl c C hc.1 hc.2) (na.no c C hc.1 hc.2) l fun u2 s2 I2 r2 => ⟨v, H1, I2, r2, q⟩
  · subst ex
    obtain rfl : u = Value.ref a := rx
    exact xo_fld I1 (na.xc c C hc.1 hc.2) (na.xn c C hc.1 hc.2) r1 r2 l q
theorem d_tup {k} (h : JA X cf P W es el) : JE X cf P W (.Tuple es k pos) (.tup el) := pe_tup h
theorem d_lst (h : JA X cf P W es el) : JE X cf P W (.List es pos) (.lst el) := pe_lst h
end
end LD
namespace LD
open PySem PySem.Spec PyProof.Rows L2
section
variable {X : Cx} {ct : Str → Option Addr} {sub : Str → Str → Option Bool} {cf : CfZ X.K ct sub} {P : Pg} {W : WX}
variable {a b c : Expr} {ea eb ec : E} {ba bb : B} {es rest : List Expr} {el : EL} {pos : Pos} {kr : Nat}

/-! ### and, or, not, if -/
theorem d_and (ha : JE X cf P W a ea) (hb : JE X cf P W (.BoolOp .And (b :: rest) pos) eb) : JE X cf P W (.BoolOp .And (a :: b :: rest) pos) (.and_ ea eb) := pe_and ha hb
theorem d_or (ha : JE X cf P W a ea) (hb : JE X cf P W (.BoolOp .Or (b :: rest) pos) eb) : JE X cf P W (.BoolOp .Or (a :: b :: rest) pos) (.or_ ea eb) := pe_or ha hb
theorem d_one {op} (ha : JE X cf P W a ea) : JE X cf P W (.BoolOp op [a] pos) ea := pe_one ha
theorem d_not (ha : JE X cf P W a ea) : JE X cf P W (.UnaryOp .Not a pos) (.not_ ea) := pe_not ha
theorem d_ife (hc : JB X cf P W c ba) (ha : JE X cf P W a ea) (hb : JE X cf P W b eb) : JE X cf P W (.IfExp c a b pos) (.ife ba ea eb) := pe_ifExp hc ha hb
abbrev JW (X : Cx) (cf : CfZ X.K ct sub) (P : Pg) (W : WX) (a : Expr) (e : B) : Prop := PW X a (semB (ops X.K ct sub cf) P W e)
theorem t_val (ha : JE X cf P W a ea) (he : ∀ whole, isTrue a X.env whole = (do let v ← whole; standAt a.pos; holding [v] (truthy v)) := by intro _; rfl) : JB X cf P W a (.e ea) := pt_val ha he
theorem t_not (ha : JB X cf P W a ba) : JB X cf P W (.UnaryOp .Not a pos) (.not_ ba) := pt_not ha
theorem w_and1 (ha : JB X cf P W a ba) : JW X cf P W (.BoolOp .And [a] pos) ba := pw_and1 ha
theorem w_or1 (ha : JB X cf P W a ba) : JW X cf P W (.BoolOp .Or [a] pos) ba := pw_or1 ha
theorem w_and (ha : JB X cf P W a ba) (hb : JW X cf P W (.BoolOp .And (b :: rest) pos) bb) : JW X cf P W (.BoolOp .And (a :: b :: rest) pos) (.and_ ba bb) := pw_and ha hb
theorem w_or (ha : JB X cf P W a ba) (hb : JW X cf P W (.BoolOp .Or (b :: rest) pos) bb) : JW X cf P W (.BoolOp .Or (a :: b :: rest) pos) (.or_ ba bb) := pw_or ha hb
theorem t_w (h : JW X cf P W a ba) : JB X cf P W a ba := h.pt

/-! ### calls -/
/-- what is known of a callee: the def at fa gives what g says, with the defaults dvs filled up -/
def CalOk (Pr : Program) (w : World) (K : PySem.W.Frag) (mg : Str → Option Value) (base : Heap) (ct : Str → Option Addr) (k : Nat) (g : List D → RF) (fa : Addr) (dvs : List Cst) : Prop :=
  ∃ fd ps ds, FnOk Pr w K mg base (L2.CX Pr w) k fa fd ps (spR K ct g) ∧ Binds K fd ps ds ∧ Vals (dvs.map Cst.v) ds ∧ PySem.W.keepIn K (.ref fa) = true
variable {x f : Str} {p apos : Pos} {fa C : Addr} {dvs : List Cst} {g : List D → RF} {k : Nat}
theorem d_call (h : CalOk X.prog X.w X.K X.mg X.base ct k g fa dvs) (hg : P.cal f = g) (hr : Room k X.A) (tk : Takes X W) (hm : X.mg x = some (.ref fa)) (ha : JA X cf P W (a :: es) el) (hgl : Gl X x := by rfl)
    (hdb : (x == ("__debug__" : Str)) = false := by decide) (he : starEach (a :: es) X.env = (false, eval a X.env) :: starEach es X.env := by rfl) (hpl : (backTo pos (starEach es X.env)).any (·.1) = false := by rfl) :
    JE X cf P W (.Call (.Name x p) (a :: es) [] pos) (.call f dvs el) := by
  obtain ⟨fd, ps, ds, F, hb, hd, hk⟩ := h
  subst hg
  exact pe_callSD F hr hgl hm hk hb hd (fun σ => passAt tk σ) ha hdb he hpl
theorem d_call0 (h : CalOk X.prog X.w X.K X.mg X.base ct k g fa dvs) (hg : P.cal f = g) (hr : Room k X.A) (tk : Takes X W) (hm : X.mg x = some (.ref fa)) (hgl : Gl X x := by rfl) (hdb : (x == ("__debug__" : Str)) = false := by decide) :
    JE X cf P W (.Call (.Name x p) [] [] pos) (.call f dvs .nil) := by
  obtain ⟨fd, ps, ds, F, hb, hd, hk⟩ := h
  subst hg
  refine ⟨fun pins s σ H Q I h => ?_⟩
  refine wpAny_Call_Name_kw (ld_glob I hgl hm ?_ hdb)
  exact PySem.W.callWith_K0 I.kIn hk (run_fnSD (us := []) (vs := []) F hr hb hd (passAt tk σ) I .nil h)
/-- the methods of that name, of every class -/
def MetOk (Pr : Program) (w : World) (K : PySem.W.Frag) (mg : Str → Option Value) (base : Heap) (ct : Str → Option Addr) (P : Pg) (k : Nat) (m : Str) (dvs : List Cst) : Prop :=
  ∀ c C f, ct c = some C → P.mt c m = some f → ∃ fa, Cls K C ∧ Meth K C m fa ∧ CalOk Pr w K mg base ct k (P.cal f) fa dvs
variable {o : Expr} {eo : E} {m : Str}
theorem d_meth {pl : Sem Bool} (h : MetOk X.prog X.w X.K X.mg X.base ct P k m dvs) (hr : Room k X.A) (tk : Takes X W) (ho : JE X cf P W o eo) (ha : JA X cf P W (a :: es) el)
    (hst : starEach (a :: es) X.env = (false, eval a X.env) :: starEach es X.env := by rfl) (hpl : (backTo pos (starEach es X.env)).any (·.1) = false := by rfl)
    (ht : eval (.Call (.Attribute o m apos) (a :: es) [] pos) X.env = (do
      let ov ← eval o X.env
      standAt apos.atName
      let (f, first) ← holding [ov] (getMethod ov m pl)
      callWith pos f first (backTo pos (starEach (a :: es) X.env)) (backToKw pos (keywordEach [] X.env))) := by rfl) :
    JE X cf P W (.Call (.Attribute o m apos) (a :: es) [] pos) (.meth m dvs eo el) := by
  refine ⟨fun pins s σ H Q I hh => ?_⟩
  refine PySem.W.methodCall_KW (pl := pl) (thn (ho.run pins s σ H _ I hh) fun u s1 hx => ?_) ht
  obtain ⟨x, H1, I1, rx, a0, c, C, dx, fs, f, ex, ea, hc, hmt, l, q⟩ := hx
  subst ex
  obtain rfl : u = Value.ref a0 := rx
  obtain ⟨fa, cl, hm, fd, ps, ds, F, hb, hd, hk⟩ := h c C f hc hmt
  refine getmeth_ok I1 ea cl hm l ?_
  refine PySem.W.callWith_K (first := [.ref a0]) (h₀ := X.base) I.ok.mod.kin hm.kp (thn (ha.run pos pins s1 σ H1 _ I1 q) fun us s2 hy => ?_) hst hpl
  obtain ⟨vs, H2, I2, r, q2⟩ := hy
  exact ⟨I2.kIn, run_fnSD (us := .ref a0 :: us) (vs := .ref a0 :: vs) F hr hb hd (passAt tk σ) I2 (.cons rfl r) q2⟩
theorem d_meth0 {pl : Sem Bool} (h : MetOk X.prog X.w X.K X.mg X.base ct P k m dvs) (hr : Room k X.A) (tk : Takes X W) (ho : JE X cf P W o eo)
    (ht : eval (.Call (.Attribute o m apos) [] [] pos) X.env = (do
      let ov ← eval o X.env
      standAt apos.atName
      let (f, first) ← holding [ov] (getMethod ov m pl)
      callWith pos f first (backTo pos (starEach [] X.env)) (backToKw pos (keywordEach [] X.env))) := by rfl) :
    JE X cf P W (.Call (.Attribute o m apos) [] [] pos) (.meth m dvs eo .nil) := by
  refine ⟨fun pins s σ H Q I hh => ?_⟩
  refine PySem.W.methodCall_KW (pl := pl) (thn (ho.run pins s σ H _ I hh) fun u s1 hx => ?_) ht
  obtain ⟨x, H1, I1, rx, a0, c, C, dx, fs, f, ex, ea, hc, hmt, l, q⟩ := hx
  subst ex
  obtain rfl : u = Value.ref a0 := rx
  obtain ⟨fa, cl, hm, fd, ps, ds, F, hb, hd, hk⟩ := h c C f hc hmt
  refine getmeth_ok I1 ea cl hm l ?_
  exact PySem.W.callWith_K0 (first := [.ref a0]) I1.kIn hm.kp (run_fnSD (us := [.ref a0]) (vs := [.ref a0]) F hr hb hd (passAt tk σ) I1 (.cons rfl .nil) q)
/-- C(..) -/
theorem run_makeS {CX : CXT} {ds : List Value} {dv : List V} {fd : FuncData} {ps : List Str} {sp : Sp} {E : L2.St → XK} {f : Addr} {pins : List (Addr × Obj)} {σ : L2.St} {H : Hp} {s : Shared} {Q : VK} {us : List Value} {vs : List V} (M : Mk X.K C f) (F : FnOk X.prog X.w X.K X.mg X.base CX k f fd ps sp) (hr : Room (k + 1) X.A) (hb : Binds X.K fd ps ds) (hd : Vals dv ds)
    (hx : PassesAt CX X σ (E σ)) (I : Inv X pins σ H s) (r : Vals vs us)
    (h : ∀ x dx, H x = none → H dx = none → dx ≠ x → sp (.ref x :: (vs ++ dv)) (upd (upd H dx (.own x)) x (.ins C dx [])) (fun v H2 => v = .non ∧ Q (.ref x) H2) (E σ)) :
    wpAny (model X.prog X.w) X.A (call (.ref C) us) (EP X pins σ Q) X.xe s := by
  have hq := h (s.heap.objs.size + 1) s.heap.objs.size (I.hok.fresh (Nat.le_succ _)) (I.hok.fresh (Nat.le_refl _)) (Nat.ne_of_lt (Nat.lt_succ_self _))
  have I2 := Inv.made (C := C) I
  have r2 : Vals (V.ref (s.heap.objs.size + 1) :: (vs ++ dv)) (Value.ref (s.heap.objs.size + 1) :: (us ++ ds)) := .cons rfl (r.append hd)
  have hl : (Value.ref (s.heap.objs.size + 1) :: us ++ ds).length = ps.length := by
    have e := r2.length
    rw [F.len _ _ _ _ hq] at e
    exact e.symm
  refine wpAny_call (make_map (f := f) I.kIn M.makes M.init (beq_iff_eq.mp M.fn) (codeAny_mono (F.run _ X.stack _ _ ⟨Value.ref (s.heap.objs.size + 1) :: us, []⟩ (Value.ref (s.heap.objs.size + 1) :: (us ++ ds)) _ _ (E σ) (hr.make C us [])
    (I2.env0.make C us []) (hb _ (Value.ref (s.heap.objs.size + 1) :: us) I2.kIn hl) r2 hq) fun r s' hq' => ?_))
  cases r with
  | error e => exact hx pins _ _ e s' I2 hq'
  | ok fl =>
    cases fl with
    | ret u =>
      obtain ⟨v, H', I3, rv, ev, q3⟩ := I2.after hq'
      subst ev
      exact ⟨rv, ⟨V.ref (s.heap.objs.size + 1), H', I3, rfl, q3⟩⟩
    | next => exact False.elim hq'
    | brk => exact False.elim hq'
    | cont => exact False.elim hq'
variable {cn : Str}
theorem d_make (M : Mk X.K C fa) (hct : ct cn = some C) (h : CalOk X.prog X.w X.K X.mg X.base ct k g fa dvs) (hg : P.cal f = g) (hr : Room (k + 1) X.A) (tk : Takes X W) (hm : X.mg x = some (.ref C)) (ha : JA X cf P W (a :: es) el) (hgl : Gl X x := by rfl)
    (hdb : (x == ("__debug__" : Str)) = false := by decide) (he : starEach (a :: es) X.env = (false, eval a X.env) :: starEach es X.env := by rfl) (hpl : (backTo pos (starEach es X.env)).any (·.1) = false := by rfl) :
    JE X cf P W (.Call (.Name x p) (a :: es) [] pos) (.make cn f dvs el) := by
  obtain ⟨fd, ps, ds, F, hb, hd, hk⟩ := h
  subst hg
  refine ⟨fun pins s σ H Q I hh => ?_⟩
  refine wpAny_Call_Name_kw (ld_glob I hgl hm ?_ hdb)
  refine PySem.W.callWith_K (h₀ := X.base) I.ok.mod.kin M.kp (thn (ha.run pos pins s σ H _ I hh) fun us s1 hx => ?_) he hpl
  obtain ⟨vs, H1, I1, r, C', hC', q⟩ := hx
  rw [hct] at hC'
  cases hC'
  exact ⟨I1.kIn, run_makeS (E := WE W) M F hr hb hd (passAt tk σ) I1 r q⟩
theorem d_make0 (M : Mk X.K C fa) (hct : ct cn = some C) (h : CalOk X.prog X.w X.K X.mg X.base ct k g fa dvs) (hg : P.cal f = g) (hr : Room (k + 1) X.A) (tk : Takes X W) (hm : X.mg x = some (.ref C)) (hgl : Gl X x := by rfl) (hdb : (x == ("__debug__" : Str)) = false := by decide) :
    JE X cf P W (.Call (.Name x p) [] [] pos) (.make cn f dvs .nil) := by
  obtain ⟨fd, ps, ds, F, hb, hd, hk⟩ := h
  subst hg
  refine ⟨fun pins s σ H Q I hh => ?_⟩
  refine wpAny_Call_Name_kw (ld_glob I hgl hm ?_ hdb)
  obtain ⟨C', hC', q⟩ := hh
  rw [hct] at hC'
  cases hC'
  exact PySem.W.callWith_K0 I.kIn M.kp (run_makeS (us := []) (vs := []) (E := WE W) M F hr hb hd (passAt tk σ) I .nil q)

/-! ### built-ins -/
theorem d_blt {id : String} {o : POp} (hc : CallR X (.builtin id) (opR X.K ct o)) (hm : X.mg x = none) (hv : bootBuiltins x = some (.builtin id)) (ha : JA X cf P W (a :: es) el) (hgl : Gl X x) (hn : x ≠ "__name__") (hdb : (x == ("__debug__" : Str)) = false)
    (he : starEach (a :: es) X.env = (false, eval a X.env) :: starEach es X.env := by rfl) (hpl : (backTo pos (starEach es X.env)).any (·.1) = false := by rfl) : JE X cf P W (.Call (.Name x p) (a :: es) [] pos) (.prim o el) := pe_callB hc hgl hm hv ha hn hdb he hpl
theorem d_bty {id : String} {o : POp} (hc : CallR X (.type id) (opR X.K ct o)) (hm : X.mg x = none) (hv : bootBuiltins x = some (.type id)) (ha : JA X cf P W (a :: es) el) (hgl : Gl X x) (hn : x ≠ "__name__") (hdb : (x == ("__debug__" : Str)) = false)
    (he : starEach (a :: es) X.env = (false, eval a X.env) :: starEach es X.env := by rfl) (hpl : (backTo pos (starEach es X.env)).any (·.1) = false := by rfl) : JE X cf P W (.Call (.Name x p) (a :: es) [] pos) (.prim o el) := pe_callTy hc hgl hm hv ha hn hdb he hpl
theorem call_lenQ : CallR X (.builtin "len") (rLenQ X.K) := by
  refine CallR.or call_len ?_
  intro pins s σ H xs us Q I r h
  obtain ⟨a, kvs, rfl, e, q⟩ := h
  obtain ⟨u, rfl, rx⟩ := vals1 r
  obtain rfl : u = Value.ref a := rx
  exact d_len I e fun t s' I' => ⟨.int kvs.length, H, I', ⟨t, rfl⟩, q⟩
theorem call_intQ : CallR X (.type "int") rIntQ := CallR.or call_int1 call_int_str
theorem call_listQ (hc : X.calm = true) : CallR X (.type "list") (rListQ X.K) := CallR.or call_list_of (call_listD hc)
theorem b_len (hm : X.mg "len" = none) (ha : JA X cf P W (a :: es) el) (hgl : Gl X "len" := by rfl) (he : starEach (a :: es) X.env = (false, eval a X.env) :: starEach es X.env := by rfl) (hpl : (backTo pos (starEach es X.env)).any (·.1) = false := by rfl) : JE X cf P W (.Call (.Name "len" p) (a :: es) [] pos) (.prim .len el) := d_blt call_lenQ hm PySem.boot_len ha hgl (by decide) (by decide) he hpl
theorem b_sum (hc : X.calm = true) (hm : X.mg "sum" = none) (ha : JA X cf P W (a :: es) el) (hgl : Gl X "sum" := by rfl) (he : starEach (a :: es) X.env = (false, eval a X.env) :: starEach es X.env := by rfl) (hpl : (backTo pos (starEach es X.env)).any (·.1) = false := by rfl) : JE X cf P W (.Call (.Name "sum" p) (a :: es) [] pos) (.prim .sum el) := d_blt (cr_sum hc) hm (by decide +kernel) ha hgl (by decide) (by decide) he hpl
theorem b_all (hc : X.calm = true) (hm : X.mg "all" = none) (ha : JA X cf P W (a :: es) el) (hgl : Gl X "all" := by rfl) (he : starEach (a :: es) X.env = (false, eval a X.env) :: starEach es X.env := by rfl) (hpl : (backTo pos (starEach es X.env)).any (·.1) = false := by rfl) : JE X cf P W (.Call (.Name "all" p) (a :: es) [] pos) (.prim .all el) := d_blt (cr_all hc) hm (by decide +kernel) ha hgl (by decide) (by decide) he hpl
theorem b_any (hc : X.calm = true) (hm : X.mg "any" = none) (ha : JA X cf P W (a :: es) el) (hgl : Gl X "any" := by rfl) (he : starEach (a :: es) X.env = (false, eval a X.env) :: starEach es X.env := by rfl) (hpl : (backTo pos (starEach es X.env)).any (·.1) = false := by rfl) : JE X cf P W (.Call (.Name "any" p) (a :: es) [] pos) (.prim .any el) := d_blt (cr_any hc) hm (by decide +kernel) ha hgl (by decide) (by decide) he hpl
theorem b_abs (hm : X.mg "abs" = none) (ha : JA X cf P W (a :: es) el) (hgl : Gl X "abs" := by rfl) (he : starEach (a :: es) X.env = (false, eval a X.env) :: starEach es X.env := by rfl) (hpl : (backTo pos (starEach es X.env)).any (·.1) = false := by rfl) : JE X cf P W (.Call (.Name "abs" p) (a :: es) [] pos) (.prim .abs el) := d_blt call_abs hm (by decide +kernel) ha hgl (by decide) (by decide) he hpl
theorem b_max2 (hc : X.calm = true) (hm : X.mg "max" = none) (ha : JA X cf P W (a :: es) el) (hgl : Gl X "max" := by rfl) (he : starEach (a :: es) X.env = (false, eval a X.env) :: starEach es X.env := by rfl) (hpl : (backTo pos (starEach es X.env)).any (·.1) = false := by rfl) : JE X cf P W (.Call (.Name "max" p) (a :: es) [] pos) (.prim .max2 el) := d_blt (call_max2 hc) hm (by decide +kernel) ha hgl (by decide) (by decide) he hpl
theorem b_min2 (hc : X.calm = true) (hm : X.mg "min" = none) (ha : JA X cf P W (a :: es) el) (hgl : Gl X "min" := by rfl) (he : starEach (a :: es) X.env = (false, eval a X.env) :: starEach es X.env := by rfl) (hpl : (backTo pos (starEach es X.env)).any (·.1) = false := by rfl) : JE X cf P W (.Call (.Name "min" p) (a :: es) [] pos) (.prim .min2 el) := d_blt (call_min2 hc) hm (by decide +kernel) ha hgl (by decide) (by decide) he hpl
theorem b_maxL (hc : X.calm = true) (hm : X.mg "max" = none) (ha : JA X cf P W (a :: es) el) (hgl : Gl X "max" := by rfl) (he : starEach (a :: es) X.env = (false, eval a X.env) :: starEach es X.env := by rfl) (hpl : (backTo pos (starEach es X.env)).any (·.1) = false := by rfl) : JE X cf P W (.Call (.Name "max" p) (a :: es) [] pos) (.prim .maxL el) := d_blt (cr_max hc) hm (by decide +kernel) ha hgl (by decide) (by decide) he hpl
theorem b_minL (hc : X.calm = true) (hm : X.mg "min" = none) (ha : JA X cf P W (a :: es) el) (hgl : Gl X "min" := by rfl) (he : starEach (a :: es) X.env = (false, eval a X.env) :: starEach es X.env := by rfl) (hpl : (backTo pos (starEach es X.env)).any (·.1) = false := by rfl) : JE X cf P W (.Call (.Name "min" p) (a :: es) [] pos) (.prim .minL el) := d_blt (cr_min hc) hm (by decide +kernel) ha hgl (by decide) (by decide) he hpl
theorem call_sortedQ (hc : X.calm = true) : CallR X (.builtin "sorted") (rSortedZ X.K) := CallR.or (CallR.or cr_sortedI (CallR.or cr_sortedS (call_sortedD hc))) (call_sortedDI hc)
theorem b_sorted (hc : X.calm = true) (hm : X.mg "sorted" = none) (ha : JA X cf P W (a :: es) el) (hgl : Gl X "sorted" := by rfl) (he : starEach (a :: es) X.env = (false, eval a X.env) :: starEach es X.env := by rfl) (hpl : (backTo pos (starEach es X.env)).any (·.1) = false := by rfl) : JE X cf P W (.Call (.Name "sorted" p) (a :: es) [] pos) (.prim .sorted el) := d_blt (call_sortedQ hc) hm (by decide +kernel) ha hgl (by decide) (by decide) he hpl
theorem b_int (hm : X.mg "int" = none) (ha : JA X cf P W (a :: es) el) (hgl : Gl X "int" := by rfl) (he : starEach (a :: es) X.env = (false, eval a X.env) :: starEach es X.env := by rfl) (hpl : (backTo pos (starEach es X.env)).any (·.1) = false := by rfl) : JE X cf P W (.Call (.Name "int" p) (a :: es) [] pos) (.prim .int_ el) := d_bty call_intQ hm (by decide +kernel) ha hgl (by decide) (by decide) he hpl
theorem b_str (hm : X.mg "str" = none) (ha : JA X cf P W (a :: es) el) (hgl : Gl X "str" := by rfl) (he : starEach (a :: es) X.env = (false, eval a X.env) :: starEach es X.env := by rfl) (hpl : (backTo pos (starEach es X.env)).any (·.1) = false := by rfl) : JE X cf P W (.Call (.Name "str" p) (a :: es) [] pos) (.prim .str_ el) := d_bty call_str_int hm (by decide +kernel) ha hgl (by decide) (by decide) he hpl
theorem b_list (hc : X.calm = true) (hm : X.mg "list" = none) (ha : JA X cf P W (a :: es) el) (hgl : Gl X "list" := by rfl) (he : starEach (a :: es) X.env = (false, eval a X.env) :: starEach es X.env := by rfl) (hpl : (backTo pos (starEach es X.env)).any (·.1) = false := by rfl) : JE X cf P W (.Call (.Name "list" p) (a :: es) [] pos) (.prim .list_ el) := d_bty (call_listQ hc) hm (by decide +kernel) ha hgl (by decide) (by decide) he hpl
theorem call_dictQ (hc : X.calm = true) : CallR X (.type "dict") (rDictQ X.K) := CallR.or call_dictD (call_dictP hc)
theorem b_dict (hc : X.calm = true) (hm : X.mg "dict" = none) (ha : JA X cf P W (a :: es) el) (hgl : Gl X "dict" := by rfl) (he : starEach (a :: es) X.env = (false, eval a X.env) :: starEach es X.env := by rfl) (hpl : (backTo pos (starEach es X.env)).any (·.1) = false := by rfl) : JE X cf P W (.Call (.Name "dict" p) (a :: es) [] pos) (.prim .dict_ el) := d_bty (call_dictQ hc) hm (by decide +kernel) ha hgl (by decide) (by decide) he hpl
theorem b_rev {p2 pos2 : Pos} (hc : X.calm = true) (hm : X.mg "list" = none) (hm2 : X.mg "reversed" = none) (ha : JE X cf P W a ea) (hg : Gl X "list" := by rfl) (hg2 : Gl X "reversed" := by rfl)
    (hs : starEach [a] X.env = (false, eval a X.env) :: starEach [] X.env := by rfl)
    (hs2 : starEach [.Call (.Name "reversed" p2) [a] [] pos2] X.env = (false, eval (.Call (.Name "reversed" p2) [a] [] pos2) X.env) :: starEach [] X.env := by rfl) : JE X cf P W (.Call (.Name "list" p) [.Call (.Name "reversed" p2) [a] [] pos2] [] pos) (.prim .rev (.cons ea .nil)) := pe_listRev hc hg hm hg2 hm2 ha hs hs2
theorem b_lenset {p2 pos2 : Pos} (hc : X.calm = true) (hm : X.mg "len" = none) (hm2 : X.mg "set" = none) (ha : JE X cf P W a ea) (hg : Gl X "len" := by rfl) (hg2 : Gl X "set" := by rfl)
    (hs : starEach [a] X.env = (false, eval a X.env) :: starEach [] X.env := by rfl) : JE X cf P W (.Call (.Name "len" p) [.Call (.Name "set" p2) [a] [] pos2] [] pos) (.prim .lenset (.cons ea .nil)) := pe_lenSetG hc hg hm hg2 hm2 ha hs
theorem b_rngL1 {p2 pos2 : Pos} (hc : X.calm = true) (hm : X.mg "list" = none) (hm2 : X.mg "range" = none) (ha : JE X cf P W a ea) (hg : Gl X "list" := by rfl) (hg2 : Gl X "range" := by rfl)
    (hs : starEach [a] X.env = (false, eval a X.env) :: starEach [] X.env := by rfl)
    (hs2 : starEach [.Call (.Name "range" p2) [a] [] pos2] X.env = (false, eval (.Call (.Name "range" p2) [a] [] pos2) X.env) :: starEach [] X.env := by rfl) : JE X cf P W (.Call (.Name "list" p) [.Call (.Name "range" p2) [a] [] pos2] [] pos) (.prim .rngL1 (.cons ea .nil)) := pe_listRg hc hg hm (prg_1L hg2 hm2 ha hs) hs2
theorem b_rngL2 {p2 pos2 : Pos} (hc : X.calm = true) (hm : X.mg "list" = none) (hm2 : X.mg "range" = none) (ha : JE X cf P W a ea) (hb : JE X cf P W b eb) (hg : Gl X "list" := by rfl) (hg2 : Gl X "range" := by rfl)
    (hs : starEach [a, b] X.env = (false, eval a X.env) :: starEach [b] X.env := by rfl) (hsb : starEach [b] X.env = (false, eval b X.env) :: starEach [] X.env := by rfl) (hp : (backTo pos2 (starEach [b] X.env)).any (·.1) = false := by rfl)
    (hs2 : starEach [.Call (.Name "range" p2) [a, b] [] pos2] X.env = (false, eval (.Call (.Name "range" p2) [a, b] [] pos2) X.env) :: starEach [] X.env := by rfl) : JE X cf P W (.Call (.Name "list" p) [.Call (.Name "range" p2) [a, b] [] pos2] [] pos) (.prim .rngL2 (.cons ea (.cons eb .nil))) := pe_listRg hc hg hm (prg_2L hg2 hm2 ha hb hs hsb hp) hs2
theorem call_is2 (hx : ∀ c C, ct c = some C → isX c = true → ExcC X.K C) : CallR X (.builtin "isinstance") (rIs2 X.K ct) := by
  refine CallR.or call_isi ?_
  intro pins s σ H xs us Q I r h
  obtain ⟨a, B, c, w2, d, k, b, rfl, hcl, hr, ⟨kvs, hxd⟩, hb, hxb, e, q⟩ := h
  obtain ⟨u1, u2, rfl, r1, r2⟩ := vals2 r
  obtain rfl : u1 = Value.ref a := r1
  obtain rfl : u2 = w2 := hcl.eq r2
  obtain ⟨oe, vs, ha, hz, hv⟩ := xo_at I hr
  have J : ∃ ox od, PySem.W.InstAt s.heap a ox B od := by
    cases hd : d with
    | none => exact ⟨oe, none, ha, hz.1, by unfold PySem.W.notCls; rw [hv] <;> rfl, by rw [hz.2, hd]; trivial⟩
    | some dd =>
      rw [hd] at hxd hz
      have hx2 : ObjOk X.prog X.w H s.heap dd (.xd kvs) := Rd.ok (show Rd H dd (.xd kvs) from hxd) I.hok
      obtain ⟨mA, hns, _⟩ := hx2
      obtain ⟨od, ho, _⟩ := lookIn_ns hns
      exact ⟨oe, some od, ha, hz.1, by unfold PySem.W.notCls; rw [hv] <;> rfl, by rw [hz.2]; exact ho⟩
  exact PySem.W.kia_one (kitx_xo (hx b B hb hxb)) I.kIn J e (fun z => nomatch z) fun tk => ⟨.bl k, H, I.kept (t' := tk) fun _ _ z => z, rfl, q⟩
theorem b_isT {t : String} {p2 : Pos} {y : Str} (hm : X.mg "isinstance" = none) (hmt : X.mg y = none) (hv : bootBuiltins y = some (.type t)) (ha : JE X cf P W a ea) (hgl : Gl X "isinstance" := by rfl) (hgt : Gl X y := by rfl) (hn : y ≠ "__name__" := by decide) (hdb : (y == ("__debug__" : Str)) = false := by decide)
    (he : starEach (a :: [.Name y p2]) X.env = (false, eval a X.env) :: starEach [.Name y p2] X.env := by rfl) (hpl : (backTo pos (starEach [.Name y p2] X.env)).any (·.1) = false := by rfl) : JE X cf P W (.Call (.Name "isinstance" p) [a, .Name y p2] [] pos) (.prim (.isT t) (.cons ea .nil)) := by
  have q : PE X (.Call (.Name "isinstance" p) [a, .Name y p2] [] pos) (tCB (rIs2 X.K ct) (tCons (semE (ops X.K ct sub cf) P W ea) (tCons (tC (.ty t)) tNil))) :=
    pe_callB (id := "isinstance") (call_is2 cf.c.xc) hgl hm (by decide +kernel) (pa_cons ha (pa_cons (pe_bltn (v := .ty t) hgt hmt hv rfl hn hdb) pa_nil rfl) he) (by decide) (by decide) he hpl
  exact q
theorem b_isC {p2 : Pos} {y : Str} (hm : X.mg "isinstance" = none) (hmt : X.mg y = some (.ref C)) (hct : ct cn = some C) (ha : JE X cf P W a ea) (hgl : Gl X "isinstance" := by rfl) (hgt : Gl X y := by rfl) (hdb : (y == ("__debug__" : Str)) = false := by decide)
    (he : starEach (a :: [.Name y p2]) X.env = (false, eval a X.env) :: starEach [.Name y p2] X.env := by rfl) (hpl : (backTo pos (starEach [.Name y p2] X.env)).any (·.1) = false := by rfl) : JE X cf P W (.Call (.Name "isinstance" p) [a, .Name y p2] [] pos) (.prim (.isC [cn]) (.cons ea .nil)) := by
  have e : (ct cn).getD 0 = C := by rw [hct]; rfl
  have q : PE X (.Call (.Name "isinstance" p) [a, .Name y p2] [] pos) (tCB (rIs2 X.K ct) (tCons (semE (ops X.K ct sub cf) P W ea) (tCons (tC (.ref ((ct cn).getD 0))) tNil))) :=
    pe_callB (id := "isinstance") (call_is2 cf.c.xc) hgl hm (by decide +kernel) (pa_cons ha (pa_cons (by rw [e]; exact pe_glob hgt hmt rfl hdb) pa_nil rfl) he) (by decide) (by decide) he hpl
  exact q
theorem d_dnew : JE X cf P W (.Dict [] [] pos) (.prim .dnew .nil) := by
  refine ⟨fun pins s σ H Q I hh => ?_⟩
  have h' : rDnewQ [] H Q := hh
  exact pe_dnewK.run pins s σ H Q I h'.2
end
end LD
namespace LD
open PySem PySem.Spec PyProof.Rows L2
section
variable {X : Cx} {ct : Str → Option Addr} {sub : Str → Str → Option Bool} {cf : CfZ X.K ct sub} {P : Pg} {W : WX}
variable {a b c tg iter : Expr} {ea eb ec : E} {ba bb : B} {es rest : List Expr} {el : EL} {pos : Pos} {kr : Nat}

/-! ### what a for walks -/
abbrev JI (X : Cx) (cf : CfZ X.K ct sub) (P : Pg) (W : WX) (tg iter : Expr) (o : IOp) (el : EL) : Prop := PI X tg iter (fun σ H R => semL (ops X.K ct sub cf) P W el σ H fun vs H1 => itR X.K cf.z o vs H1 R)
theorem i_any (ha : JE X cf P W a ea) : JI X cf P W tg a .lst (.cons ea .nil) := by
  refine ⟨fun pins s σ H R I h => ?_⟩
  refine thn (ha.run pins s σ H _ I h) fun v s1 hh => ?_
  obtain ⟨x, H1, I1, r1, x', e, q⟩ := hh
  cases e
  rcases q with ⟨p, e, ⟨xs, hq⟩, q⟩ | ⟨p, e, ⟨xs, hq⟩, q⟩ | ⟨z, e, q⟩
  · subst e
    cases r1
    obtain ⟨its, rv, pl, hz⟩ := I1.list hq
    refine wpAny_pyIter_list pl.isList ?_
    refine ⟨s1.heap.objs.size, [s1.heap.objs.size], _, _, H1, rfl, I1.kept (t' := s1.toks) fun b o e => Heap.get?_push_of_some _ e, turn_list p _, ⟨_, Heap.get?_push_size _ rfl, rfl, rfl⟩, fun b hb => ?_, q⟩
    have e : b = s1.heap.objs.size := by simpa using hb
    subst e
    exact I1.fpOk (Nat.le_refl _) (I1.hok.fresh (Nat.le_refl _))
  · subst e
    cases r1
    obtain ⟨its, rv, pl, hz⟩ := I1.tuple hq
    refine wpAny_pyIter_tuple (show s1.heap.IsTuple p its.toArray from pl) ?_
    refine ⟨s1.heap.objs.size, [s1.heap.objs.size], _, _, H1, rfl, I1.kept (t' := s1.toks) fun b o e => Heap.get?_push_of_some _ e, turn_tuple p _, ⟨_, Heap.get?_push_size _ rfl, rfl, rfl⟩, fun b hb => ?_, q⟩
    have e : b = s1.heap.objs.size := by simpa using hb
    subst e
    exact I1.fpOk (Nat.le_refl _) (I1.hok.fresh (Nat.le_refl _))
  · subst e
    obtain ⟨t, rfl⟩ := r1
    cases ha : z.cps.all (· < 128)
    · exact wpAny_pyIter_wide ha (pi_one (tk := s1.toks) I1 _ (turn_str _ z t "str_iterator" (.inr rfl)) ⟨_, Heap.get?_push_size _ rfl, rfl, rfl⟩ q)
    · exact wpAny_pyIter_ascii ha (pi_one (tk := s1.toks) I1 _ (turn_str _ z t "str_ascii_iterator" (.inl rfl)) ⟨_, Heap.get?_push_size _ rfl, rfl, rfl⟩ q)
variable {p : Pos} {tpos : Pos} {elts : List Expr} {kk : Nat}
theorem i_enum (hm : X.mg "enumerate" = none) (ha : JA X cf P W [a] el) (hg : Gl X "enumerate" := by rfl) (hs : starEach [a] X.env = [(false, eval a X.env)] := by rfl) : JI X cf P W (.Tuple elts kk tpos) (.Call (.Name "enumerate" p) [a] [] pos) .enum el := pi_enum hg hm ha hs
theorem i_zip (hm : X.mg "zip" = none) (ha : JA X cf P W [a, b] el) (hg : Gl X "zip" := by rfl) (hs : starEach [a, b] X.env = (false, eval a X.env) :: starEach [b] X.env := by rfl) (hpl : (backTo pos (starEach [b] X.env)).any (·.1) = false := by rfl) : JI X cf P W (.Tuple elts kk tpos) (.Call (.Name "zip" p) [a, b] [] pos) .zip el := pi_zip hg hm ha hs hpl
theorem i_rng1 (hm : X.mg "range" = none) (ha : JA X cf P W [a] el) (hg : Gl X "range" := by rfl) (hs : starEach [a] X.env = [(false, eval a X.env)] := by rfl) : JI X cf P W tg (.Call (.Name "range" p) [a] [] pos) .rng1 el := pi_range1 hg hm ha hs
theorem i_rng2 (hm : X.mg "range" = none) (ha : JA X cf P W [a, b] el) (hg : Gl X "range" := by rfl) (hs : starEach [a, b] X.env = [(false, eval a X.env), (false, eval b X.env)] := by rfl) (hs2 : starEach [b] X.env = [(false, eval b X.env)] := by rfl) : JI X cf P W tg (.Call (.Name "range" p) [a, b] [] pos) .rng2 el := pi_range2 hg hm ha hs hs2
theorem i_rng3 (hm : X.mg "range" = none) (ha : JA X cf P W [a, b, c] el) (hg : Gl X "range" := by rfl) (hs : starEach [a, b, c] X.env = (false, eval a X.env) :: starEach [b, c] X.env := by rfl) (hpl : (backTo pos (starEach [b, c] X.env)).any (·.1) = false := by rfl) : JI X cf P W tg (.Call (.Name "range" p) [a, b, c] [] pos) .rng3 el := pi_range3 hg hm ha hs hpl
theorem i_revL (hm : X.mg "reversed" = none) (ha : JA X cf P W [a] el) (hg : Gl X "reversed" := by rfl) (hs : starEach [a] X.env = [(false, eval a X.env)] := by rfl) : JI X cf P W tg (.Call (.Name "reversed" p) [a] [] pos) .revL el := pi_reversed hg hm ha hs

/-! ### targets -/
theorem g_one (i : Nat) {x : Str} (hN : X.N.Nodup) (hi : X.N[i]? = some x := by rfl) (hx : Loc X.env.scope x := by first | exact .inl rfl | exact .inr rfl) (hf : X.fn x = true ∨ X.env.scope.names.lookup x = some .local := by first | exact .inl rfl | exact .inr rfl) : PG X (.Name x pos) (gP X.K (.one i)) := pg_name hN hi hx hf
theorem g_nil : PGs X [] (gPs X.K []) := pgs_nil
theorem g_cons {e : Expr} {es : List Expr} {p : Pat} {ps : List Pat} (h1 : PG X e (gP X.K p)) (h2 : PGs X es (gPs X.K ps)) (hs : (assignEach (e :: es) X.env).map (·.2) = assign e X.env :: (assignEach es X.env).map (·.2) := by rfl) : PGs X (e :: es) (gPs X.K (p :: ps)) := pgs_cons h1 h2 hs
theorem g_tup {es : List Expr} {k : Nat} {ps : List Pat} (hc : X.calm = true) (h : PGs X es (gPs X.K ps)) (hn : (assignEach es X.env).length = ps.length := by rfl) (hst : (assignEach es X.env).findIdx? (·.1) = none := by rfl) : PG X (.Tuple es k pos) (gP X.K (.tup ps)) := by
  refine ⟨fun pins s σ H v u Q I r hw => ?_⟩
  rcases hw with hw | hw
  · exact (pg_tup hc h hn hst).run pins s σ H v u Q I r hw
  · exact (pg_lst hc h hn hst).run pins s σ H v u Q I r hw

/-! ### a dict, locked while it is walked -/
theorem pe_unl {e : Expr} {t : TE} {b : Bool} {z : Hp} (hz : b = true → z = X.H_0) (h : PE X e t) : PE X e (tUnlE b z t) := by
  refine ⟨fun pins s σ H Q I hw => ?_⟩
  refine thn (h.run pins s σ H _ I hw) fun v s1 ⟨x, H1, I1, r, q⟩ => ?_
  cases b with
  | false => exact ⟨x, H1, I1, r, q⟩
  | true =>
    have hz' := hz rfl
    subst hz'
    rcases q with q | ⟨d, od, u, hd, nf, q⟩
    · exact ⟨x, H1, I1, r, q⟩
    · exact ⟨x, _, I1.unlock hd nf, r, q⟩
theorem ps_unl {st : Stmt} {t : TS} {b : Bool} {z : Hp} (hz : b = true → z = X.H_0) (h : PS X st t) : PS X st (tUnl b z t) := by
  refine ⟨fun pins s σ H D I hw => ?_⟩
  cases b with
  | false => exact h.run pins s σ H D I hw
  | true =>
    have hz' := hz rfl
    subst hz'
    refine thn (h.run pins s σ H _ I hw) fun f s1 q => ?_
    cases f with
    | next =>
      obtain ⟨σ', H', I2, q⟩ := q
      rcases q with q | ⟨d, od, u, hd, nf, q⟩
      · exact ⟨σ', H', I2, q⟩
      · exact ⟨σ', _, I2.unlock hd nf, q⟩
    | brk =>
      obtain ⟨σ', H', I2, q⟩ := q
      rcases q with q | ⟨d, od, u, hd, nf, q⟩
      · exact ⟨σ', H', I2, q⟩
      · exact ⟨σ', _, I2.unlock hd nf, q⟩
    | cont =>
      obtain ⟨σ', H', I2, q⟩ := q
      rcases q with q | ⟨d, od, u, hd, nf, q⟩
      · exact ⟨σ', H', I2, q⟩
      · exact ⟨σ', _, I2.unlock hd nf, q⟩
    | ret v =>
      obtain ⟨x, σ', H', I2, r, q⟩ := q
      rcases q with q | ⟨d, od, u, hd, nf, q⟩
      · exact ⟨x, σ', H', I2, r, q⟩
      · exact ⟨x, σ', _, I2.unlock hd nf, r, q⟩
theorem walk_lock {mk : Addr → Obj → List (Key × V) → It} {pins : List (Addr × Obj)} {σ : L2.St} {H1 : Hp} {s1 : Shared} {R : It → Hp → Prop} {z : Hp} {d : Addr} {kvs : List (Key × V)} (hz : z = X.H_0) (I1 : Inv X pins σ H1 s1)
    (q : (∃ o, H1 d = some (.frz o (.dK kvs)) ∧ R (mk d o kvs) H1) ∨ (H1 d = some (.dK kvs) ∧ ∀ od, NoFrz z d → R (mk d od kvs) (upd H1 d (.frz od (.dK kvs))))) :
    ∃ H2 o, Inv X pins σ H2 s1 ∧ H2 d = some (.frz o (.dK kvs)) ∧ R (mk d o kvs) H2 := by
  rcases q with ⟨o, hd, q⟩ | ⟨hd, q⟩
  · exact ⟨H1, o, I1, hd, q⟩
  · obtain ⟨od, I2⟩ := I1.lock hd trivial
    exact ⟨_, od, I2, upd_same, q od (by rw [hz]; exact I1.nofrz hd trivial)⟩
theorem i_keys (ha : JE X cf P W a ea) (hz : cf.z = X.H_0 := by rfl) : JI X cf P W tg a .keys (.cons ea .nil) := by
  refine ⟨fun pins s σ H R I h => ?_⟩
  refine thn (ha.run pins s σ H _ I h) fun u s1 hh => ?_
  obtain ⟨x, H0, I0, rx, d, kvs, e, q⟩ := hh
  cases e
  obtain rfl : u = Value.ref d := rx
  obtain ⟨H1, o, I1, hd, q⟩ := walk_lock hz I0 q
  obtain ⟨hs, hgd, hx, es, ep, vs, hdt, hsz, kv, hm⟩ := I1.frzK hd
  refine iter_keys hs hgd hx hdt (pi_one (tk := s1.toks) I1 _ (turn_keys _ hdt) ⟨_, Heap.get?_push_size _ rfl, rfl, ?_⟩ q)
  rw [hsz] <;> rfl
theorem i_vals {apos cpos : Pos} {e : Expr} (ha : JE X cf P W e ea) (hz : cf.z = X.H_0 := by rfl) (hbase : attributeBase e "values" X.env (eval e X.env) = eval e X.env := by rfl) (hline : (apos.endLine == cpos.line) = true := by rfl) : JI X cf P W tg (.Call (.Attribute e "values" apos) [] [] cpos) .vals (.cons ea .nil) := by
  refine ⟨fun pins s σ H R I h => ?_⟩
  refine wpAny_Call_method (T := "dict") (id := "dict.values") hbase rfl hline F.plainAttrs_dict F.slot_dict_values F.type_dict_values (thn (ha.run pins s σ H _ I h) fun u s1 hh => ?_)
  obtain ⟨x, H0, I0, rx, d, kvs, ex, q⟩ := hh
  cases ex
  obtain rfl : u = Value.ref d := rx
  obtain ⟨H1, o, I1, hd, q⟩ := walk_lock hz I0 q
  obtain ⟨hs, hgd, hx, es, ep, vs, hdt, hsz, kv, hm⟩ := I1.frzK hd
  have hl : kvs.length = vs.length := Paired.length kv
  refine ⟨hm.dictOf.typeIs, hm.dictOf.mapOf.noDict, ?_⟩
  have I2 : Inv X pins σ H1 { s1 with heap := s1.heap.push { cls := .type "dict_values", data := .fields #[.ref d] } } := I1.kept (t' := s1.toks) fun b ob q => Heap.get?_push_of_some _ q
  have fin : wpAny (model X.prog X.w) X.A (pyIter (.ref s1.heap.objs.size)) (PIE X pins σ tg R) X.xe { s1 with heap := s1.heap.push { cls := .type "dict_values", data := .fields #[.ref d] } } := by
    refine wpAny_pyIter_values (d := d) (knd := mixKind X.prog X.w) ⟨_, Heap.get?_push_size _ rfl, rfl, rfl⟩ (hm.push _) (pi_one (tk := s1.toks) I2 _ (turn_vals _ hdt) ⟨_, Heap.get?_push_size _ rfl, rfl, ?_⟩ q)
    rw [hl] <;> rfl
  show wpAny _ _ (callWith cpos (.builtin "dict.values") [.ref d] [] []) _ X.xe s1
  exact method_meetsIn F.slot_dict_values F.entry_dict_values rfl (PySem.evalArgs_none ⟨rfl, hm.dictOf.typeIs, F.args_dict_values_1 _, _, meets_dict_values (mixKind X.prog X.w) d hs, ⟨vs, hm.dictOf⟩, fin⟩)
theorem i_items {apos cpos : Pos} {e : Expr} {elts : List Expr} {kk : Nat} {tpos : Pos} (ha : JE X cf P W e ea) (hz : cf.z = X.H_0 := by rfl) (hbase : attributeBase e "items" X.env (eval e X.env) = eval e X.env := by rfl) (hline : (apos.endLine == cpos.line) = true := by rfl) : JI X cf P W (.Tuple elts kk tpos) (.Call (.Attribute e "items" apos) [] [] cpos) .items (.cons ea .nil) := by
  refine ⟨fun pins s σ H R I h => ?_⟩
  refine wpAny_Call_method (T := "dict") (id := "dict.items") hbase rfl hline F.plainAttrs_dict F.slot_dict_items F.type_dict_items (thn (ha.run pins s σ H _ I h) fun u s1 hh => ?_)
  obtain ⟨x, H0, I0, rx, d, kvs, ex, q⟩ := hh
  cases ex
  obtain rfl : u = Value.ref d := rx
  obtain ⟨H1, o, I1, hd, q⟩ := walk_lock hz I0 q
  obtain ⟨hs, hgd, hx, es, ep, vs, hdt, hsz, kv, hm⟩ := I1.frzK hd
  have hl : kvs.length = vs.length := Paired.length kv
  refine ⟨hm.dictOf.typeIs, hm.dictOf.mapOf.noDict, ?_⟩
  have I2 : Inv X pins σ H1 { s1 with heap := s1.heap.push { cls := .type "dict_items", data := .fields #[.ref d] } } := I1.kept (t' := s1.toks) fun b ob q => Heap.get?_push_of_some _ q
  have fin : wpAny (model X.prog X.w) X.A (pyIter (.ref s1.heap.objs.size)) (PIE X pins σ (.Tuple elts kk tpos) R) X.xe { s1 with heap := s1.heap.push { cls := .type "dict_items", data := .fields #[.ref d] } } := by
    refine wpAny_pyIter_items (d := d) (knd := mixKind X.prog X.w) ⟨_, Heap.get?_push_size _ rfl, rfl, rfl⟩ (hm.push _) (pi_one (tk := s1.toks) I2 _ (turn_items _ hdt) ⟨.none, .none, ?_⟩ q)
    rw [hl]
    exact Heap.get?_push_size _ rfl
  show wpAny _ _ (callWith cpos (.builtin "dict.items") [.ref d] [] []) _ X.xe s1
  exact method_meetsIn F.slot_dict_items F.entry_dict_items rfl (PySem.evalArgs_none ⟨rfl, hm.dictOf.typeIs, F.args_dict_items_1 _, _, meets_dict_items (mixKind X.prog X.w) d hs, ⟨vs, hm.dictOf⟩, fin⟩)
/-! ### comprehensions -/
theorem q_nil : PTs X [] (semB (ops X.K ct sub cf) P W .tt) := pts_nil
theorem q_one (h : JB X cf P W c ba) : PTs X [c] (semB (ops X.K ct sub cf) P W ba) := pts_one h
variable {elt : Expr} {ifs : List Expr} {scope : Scope} {o : IOp} {pt : Pat} {ee : E}
theorem d_lc (own : List (Str × Nat)) (hc : X.calm = true) (hN : X.N.Nodup) (hi : JI X cf P W tg iter o el) (ok : BlkOk X.N X.env.scope scope own)
    (hg : ∀ (s : Shared) (H : Hp) (C : Addr) (cl : List (Str × Addr)) (fp : List Addr), PG (X.blk s H scope (compEnvC scope cl C X.env) fp) tg (gP X.K pt))
    (ht : ∀ (s : Shared) (H : Hp) (C : Addr) (cl : List (Str × Addr)) (fp : List Addr), PTs (X.blk s H scope (compEnvC scope cl C X.env) fp) ifs (semB (ops X.K ct sub cf) P W0 ba))
    (he : ∀ (s : Shared) (H : Hp) (C : Addr) (cl : List (Str × Addr)) (fp : List Addr), PE (X.blk s H scope (compEnvC scope cl C X.env) fp) elt (semE (ops X.K ct sub cf) P W0 ee)) (hs : ∀ x, foldedSetIterable iter X.env x = pure x := by intro _; rfl) (hz : o.dw = true → cf.z = X.H_0 := by first | exact fun _ => rfl | (intro h; cases h)) :
    JE X cf P W (.ListComp elt [⟨tg, iter, ifs, 0⟩] scope pos) (.lc (own.map (·.2)) pt o el ba ee) := pe_unl hz (pe_lc hc hN hi ok hg ht he hs)

/-! ### statements -/
abbrev JS (X : Cx) (cf : CfZ X.K ct sub) (P : Pg) (W : WX) (st : Stmt) (s : S) : Prop := PS X st (semS (ops X.K ct sub cf) (mops X.K ct) P W s)
abbrev JSs (X : Cx) (cf : CfZ X.K ct sub) (P : Pg) (W : WX) (st : List Stmt) (s : S) : Prop := PSs X st (semS (ops X.K ct sub cf) (mops X.K ct) P W s)
abbrev JC (X : Cx) (cf : CfZ X.K ct sub) (P : Pg) (W : WX) (a : Expr) (e : C) : Prop := PE X a (semC (ops X.K ct sub cf) P W e)
abbrev JT (X : Cx) (cf : CfZ X.K ct sub) (P : Pg) (W : WX) (a : Expr) (e : T) : Prop := PT X a (semT (ops X.K ct sub cf) P W e)
variable {st : Stmt} {sts : List Stmt} {s1 s2 : S} {cc : C} {tt : T}
theorem s_nil : JSs X cf P W [] .skip := pss_nil
theorem s_cons (h : JS X cf P W st s1) (h2 : JSs X cf P W sts s2) : JSs X cf P W (st :: sts) (.seq s1 s2) := pss_cons h h2
theorem s_last (h : JS X cf P W st s1) : JSs X cf P W [st] s1 := pss_one h
theorem s_frzs (i : Nat) (h : JSs X cf P W sts s1) : JSs X cf P W sts (.frz i s1) := h
theorem s_set (i : Nat) {x : Str} {p1 : Pos} (hN : X.N.Nodup) (hv : JC X cf P W a cc) (hi : X.N[i]? = some x := by rfl) (hx : Loc X.env.scope x := by first | exact .inl rfl | exact .inr rfl) (hs : swapsWith a (some (.Name x p1)) pos.line X.env = pure false := by rfl)
    (hf : X.fn x = true ∨ X.env.scope.names.lookup x = some .local := by first | exact .inl rfl | exact .inr rfl) : JS X cf P W (.Assign [.Name x p1] a pos) (.asg (.one i) cc) := ps_set hN hi hx hv hs hf
theorem s_asg (hv : JC X cf P W a cc) (hg : PG X tg (gP X.K pt)) (hs : swapsWithSole [tg] a pos.line X.env = pure false := by rfl) (hw : swappedStores [tg] a X.env = pure none := by rfl) (h1 : (assignEach [tg] X.env).map (·.2) = [assign tg X.env] := by rfl) : JS X cf P W (.Assign [tg] a pos) (.asg pt cc) := ps_asg hv hg hs hw h1
theorem s_setLc (i : Nat) (own : List (Str × Nat)) {y : Str} {py lpos : Pos} (hsem : semC (ops X.K ct sub cf) P W cc = semE (ops X.K ct sub cf) P W (.lc (own.map (·.2)) pt o el ba ee)) (hc : X.calm = true) (hN : X.N.Nodup) (hi : JI X cf P W tg iter o el) (ok : BlkOk X.N X.env.scope scope own)
    (hg : ∀ (s : Shared) (H : Hp) (C : Addr) (cl : List (Str × Addr)) (fp : List Addr), PG (X.blk s H scope (compEnvC scope cl C X.env) fp) tg (gP X.K pt))
    (ht : ∀ (s : Shared) (H : Hp) (C : Addr) (cl : List (Str × Addr)) (fp : List Addr), PTs (X.blk s H scope (compEnvC scope cl C X.env) fp) ifs (semB (ops X.K ct sub cf) P W0 ba))
    (he : ∀ (s : Shared) (H : Hp) (C : Addr) (cl : List (Str × Addr)) (fp : List Addr), PE (X.blk s H scope (compEnvC scope cl C X.env) fp) elt (semE (ops X.K ct sub cf) P W0 ee)) (hs : ∀ x, foldedSetIterable iter X.env x = pure x := by intro _; rfl)
    (hy : X.N[i]? = some y := by rfl) (hyl : X.env.scope.names.lookup y = some .local := by rfl) (hsw : swapsWith (.ListComp elt [⟨tg, iter, ifs, 0⟩] scope lpos) (some (.Name y py)) pos.line X.env = pure true := by exact sw_true rfl rfl rfl (by decide +kernel)) (hz : o.dw = true → cf.z = X.H_0 := by first | exact fun _ => rfl | (intro h; cases h)) :
    JS X cf P W (.Assign [.Name y py] (.ListComp elt [⟨tg, iter, ifs, 0⟩] scope lpos) pos) (.asg (.one i) cc) := by
  have q := ps_unl hz <| ps_setLc (pos := lpos) (spos := pos) (py := py) hc hN hy hyl hsw hi ok hg ht he hs
  show PS X _ (tAsg (semC (ops X.K ct sub cf) P W cc) (gName i))
  rw [hsem]
  exact q
theorem s_par (i j : Nat) {x y : Str} {px py ptt pos2 : Pos} {kt k2 : Nat} (hc : X.calm = true) (hN : X.N.Nodup) (ha : JA X cf P W [a, b] (.cons ea (.cons eb .nil))) (hi : X.N[i]? = some x := by rfl) (hj : X.N[j]? = some y := by rfl) (hij : i ≠ j := by decide)
    (hx : X.env.scope.names.lookup x = some .local := by rfl) (hy : X.env.scope.names.lookup y = some .local := by rfl)
    (hw : swappedStores [.Tuple [.Name x px, .Name y py] kt ptt] (.Tuple [a, b] k2 pos2) X.env = pure (some [x, y]) := by rfl)
    (hs : swapsWithSole [.Tuple [.Name x px, .Name y py] kt ptt] (.Tuple [a, b] k2 pos2) pos.line X.env = pure false := by rfl) :
    JS X cf P W (.Assign [.Tuple [.Name x px, .Name y py] kt ptt] (.Tuple [a, b] k2 pos2) pos) (.par i j ea eb) := by
  refine ⟨fun pins s σ H D I h => ?_⟩
  rw [exec_Assign_arm]
  refine wpAny_bind (wpAny_standAt ?_)
  rw [hs]
  refine wpAny_bind (wpAny_pure ?_)
  rw [if_neg (by decide)]
  refine wpAny_bind (Tuple_ (thn (ha.run _ pins s σ H (fun vs H2 => match vs with | [v, w] => D.nx ((σ.set i (some v)).set j (some w)) H2 | _ => False) I h) fun us s1 hh => ?_))
  obtain ⟨vs, H1, I1, r1, q1⟩ := hh
  obtain ⟨v, w, rfl⟩ : ∃ v w, vs = [v, w] := by
    match vs, q1 with
    | [v, w], _ => exact ⟨v, w, rfl⟩
  obtain ⟨u1, u2, rfl, rv, rw'⟩ : ∃ u1 u2, us = [u1, u2] ∧ RelV v u1 ∧ RelV w u2 := by
    cases r1 with
    | cons p q =>
      cases q with
      | cons p' q' =>
        cases q'
        exact ⟨_, _, rfl, p, p'⟩
  refine wpAny_newObj_type ?_ (by show 2 ≤ sizeLine; decide)
  have I2 : Inv X pins σ H1 { s1 with heap := s1.heap.push { cls := .type "tuple", data := .seq [u1, u2].toArray } } := I1.kept (t' := s1.toks) fun b o e => Heap.get?_push_of_some _ e
  rw [hw]
  refine wpAny_bind (wpAny_pure ?_)
  show wpAny (model X.prog X.w) X.A (do rule "assign.swapped-stores"; let items ← unpackItems (.ref s1.heap.objs.size) 2 none; assignInOrder [fun v => bindName X.env y v, fun v => bindName X.env x v] items.reverse; pure Flow.next) _ _ _
  refine wpAny_bind (wpAny_rule (wpAny_bind (unpackItems_tuple (items := #[u1, u2]) (I.ok.hd hc) (IsTup.new s1.heap _) fun h' hx' => ?_)))
  have I3 := I2.kept (h' := h') (t' := s1.toks) fun b o e => hx' b o (Nat.ne_of_lt (Heap.lt_size e)) e
  show wpAny _ _ (assignInOrder [fun v => bindName X.env y v, fun v => bindName X.env x v] [u2, u1] >>= fun _ => pure Flow.next) _ _ _
  refine wpAny_bind (assignInOrder_cons (wpAny_bindName (store_ok I3 hN hj (.inl hy) rw' (fun s2 I4 => ?_) (.inr hy))))
  refine assignInOrder_cons (wpAny_bindName (store_ok I4 hN hi (.inl hx) rv (fun s3 I5 => assignInOrder_nil (wpAny_pure ?_)) (.inr hx)))
  rw [List.set_comm _ _ (Ne.symm hij)] at I5
  exact ⟨_, H1, I5, q1⟩
theorem s_drop (h : JC X cf P W a cc) (hs : swapsWith a none pos.line X.env = pure false := by rfl) : JS X cf P W (.Expr a pos) (.drop cc) := ps_expr h hs
theorem s_ret (h : JC X cf P W a cc) : JS X cf P W (.Return (some a) pos) (.ret cc) := ps_ret h
theorem s_retN : JS X cf P W (.Return none pos) .retN := ps_retN
theorem s_if {t1 t2 : List Stmt} (h : JT X cf P W c tt) (h1 : JSs X cf P W t1 s1) (h2 : JSs X cf P W t2 s2) : JS X cf P W (.If c t1 t2 pos) (.ife tt s1 s2) := ps_if h h1 h2
theorem s_for (hp : PassesOwn (model X.prog X.w) X.A X.env X.xe) (hc : X.calm = true) (hi : JI X cf P W tg iter o el) (hg : PG X tg (gP X.K pt)) (hb : JSs X cf P W sts s1) (hs : ∀ x, foldedSetIterable iter X.env x = pure x := by intro _; rfl) (hz : o.dw = true → cf.z = X.H_0 := by first | exact fun _ => rfl | (intro h; cases h)) :
    JS X cf P W (.For tg iter sts [] pos) (.for_ pt o el s1) := ps_unl hz (ps_for hp hc hi hg hb hs)
theorem s_whl (hp : PassesOwn (model X.prog X.w) X.A X.env X.xe) (h : JT X cf P W c tt) (hb : JSs X cf P W sts s1) : JS X cf P W (.While c sts [] pos) (.whl tt s1) := ps_while hp h hb
theorem s_brk : JS X cf P W (.Break pos) .brk := ps_break
theorem s_cnt : JS X cf P W (.Continue pos) .cnt := ps_continue
theorem s_pass : JS X cf P W (.Pass pos) .skip := ps_pass
theorem s_frz (i : Nat) (h : JS X cf P W st s1) : JS X cf P W st (.frz i s1) := h
/-! ### with effects -/
theorem c_e (h : JE X cf P W a ea) : JC X cf P W a (.e ea) := h
theorem c_mv (i : Nat) {x : Str} {pos : Pos} (hN : X.N[i]? = some x := by rfl) (hv : Vis X.env.scope x := by first | exact Or.inl rfl | exact Or.inr (Or.inl rfl) | exact Or.inr (Or.inr rfl)) (hd : (x == ("__debug__" : Str)) = false := by decide)
    (hcd : (x == ("__classdict__" : Str)) = false := by decide) : JC X cf P W (.Name x pos) (.mv i) := pe_var hN hv hd hcd
theorem c_frz (h : JC X cf P W a cc) : JC X cf P W a (.frz cc) := h
abbrev JCL (X : Cx) (cf : CfZ X.K ct sub) (P : Pg) (W : WX) (a : List Expr) (e : CL) : Prop := PA X a (semCL (ops X.K ct sub cf) P W e)
variable {cl : CL}
theorem c_nil : JCL X cf P W [] .nil := pa_nil
theorem c_cons (h : JC X cf P W a cc) (t : JCL X cf P W es cl) (hs : starEach (a :: es) X.env = (false, eval a X.env) :: starEach es X.env := by rfl) : JCL X cf P W (a :: es) (.cons cc cl) := pa_cons h t hs
theorem c_tup {k} (h : JCL X cf P W es cl) : JC X cf P W (.Tuple es k pos) (.tup cl) := pe_tup h
theorem c_lst (h : JCL X cf P W es cl) : JC X cf P W (.List es pos) (.lst cl) := pe_lst h
theorem c_and {c2 : C} (ha : JC X cf P W a cc) (hb : JC X cf P W (.BoolOp .And (b :: rest) pos) c2) : JC X cf P W (.BoolOp .And (a :: b :: rest) pos) (.and_ cc c2) := pe_and ha hb
theorem c_or {c2 : C} (ha : JC X cf P W a cc) (hb : JC X cf P W (.BoolOp .Or (b :: rest) pos) c2) : JC X cf P W (.BoolOp .Or (a :: b :: rest) pos) (.or_ cc c2) := pe_or ha hb
theorem c_one {op} (ha : JC X cf P W a cc) : JC X cf P W (.BoolOp op [a] pos) cc := pe_one ha
theorem c_not (ha : JC X cf P W a cc) : JC X cf P W (.UnaryOp .Not a pos) (.not_ cc) := pe_not ha
/-- places -/
abbrev JP (X : Cx) (cf : CfZ X.K ct sub) (P : Pg) (W : WX) (i : Nat) (a : Expr) (ps : List Pst) : Prop := PE X a (semPath (ops X.K ct sub cf) P W ps (tVar i))
theorem semPath_snoc (O : Ops X.K ct) (P : Pg) (W : WX) (t : TE) (q : Pst) : ∀ ps : List Pst, semPath O P W (ps ++ [q]) t = semPath O P W [q] (semPath O P W ps t) := fun ps => by
  induction ps generalizing t with
  | nil => rfl
  | cons r ps ih =>
    cases r with
    | fld f => exact ih _
    | ix e => exact ih _
theorem p_v (i : Nat) {x : Str} {pos : Pos} (hN : X.N[i]? = some x := by rfl) (hv : Vis X.env.scope x := by first | exact Or.inl rfl | exact Or.inr (Or.inl rfl) | exact Or.inr (Or.inr rfl)) (hd : (x == ("__debug__" : Str)) = false := by decide)
    (hcd : (x == ("__classdict__" : Str)) = false := by decide) : JP X cf P W i (.Name x pos) [] := pe_var hN hv hd hcd
variable {i : Nat} {ps : List Pst}
theorem p_fld {f : Str} (na : Na X.K ct f) (h : JP X cf P W i a ps) (hb : attributeBase a f X.env (eval a X.env) = eval a X.env := by rfl) : JP X cf P W i (.Attribute a f pos) (ps ++ [.fld f]) := by
  have q := pe_fldq (pos := pos) na h hb
  show PE X _ (semPath (ops X.K ct sub cf) P W (ps ++ [.fld f]) (tVar i))
  rw [semPath_snoc]
  exact q
theorem p_ix (hr : Room kr X.A) (h : JP X cf P W i a ps) (hb : JE X cf P W b eb) (hs : PlainIx b := by exact fun _ _ => rfl) : JP X cf P W i (.Subscript a b pos) (ps ++ [.ix eb]) := by
  have q := pe_ixq (pos := pos) hr h hb hs
  show PE X _ (semPath (ops X.K ct sub cf) P W (ps ++ [.ix eb]) (tVar i))
  rw [semPath_snoc]
  exact q
abbrev JAs (X : Cx) (cf : CfZ X.K ct sub) (P : Pg) (W : WX) (a : List Expr) (as : List A) : Prop := PA X a (semAs (ops X.K ct sub cf) P W as)
abbrev JA1 (X : Cx) (cf : CfZ X.K ct sub) (P : Pg) (W : WX) (a : Expr) (a' : A) : Prop := PE X a (semA (ops X.K ct sub cf) P W a')
variable {as : List A} {a1 : A}
theorem a_e (h : JE X cf P W a ea) : JA1 X cf P W a (.e ea) := h
theorem a_mv (i : Nat) {x : Str} {pos : Pos} (hN : X.N[i]? = some x := by rfl) (hv : Vis X.env.scope x := by first | exact Or.inl rfl | exact Or.inr (Or.inl rfl) | exact Or.inr (Or.inr rfl)) (hd : (x == ("__debug__" : Str)) = false := by decide)
    (hcd : (x == ("__classdict__" : Str)) = false := by decide) : JA1 X cf P W (.Name x pos) (.mv i) := pe_var hN hv hd hcd
theorem a_io (h : JP X cf P W i a ps) : JA1 X cf P W a (.io i ps) := h
theorem a_nil : JAs X cf P W [] [] := pa_nil
theorem a_cons (h : JA1 X cf P W a a1) (t : JAs X cf P W es as) (hs : starEach (a :: es) X.env = (false, eval a X.env) :: starEach es X.env := by rfl) : JAs X cf P W (a :: es) (a1 :: as) := pa_cons h t hs
variable {x f : Str} {apos : Pos} {fa Cc : Addr} {dvs : List Cst} {g : List D → RF} {k : Nat}
theorem c_call (h : CalOk X.prog X.w X.K X.mg X.base ct k g fa dvs) (hg : P.cal f = g) (hr : Room k X.A) (tk : Takes X W) (hm : X.mg x = some (.ref fa)) (ha : JAs X cf P W (a :: es) as) (hgl : Gl X x := by rfl)
    (hdb : (x == ("__debug__" : Str)) = false := by decide) (he : starEach (a :: es) X.env = (false, eval a X.env) :: starEach es X.env := by rfl) (hpl : (backTo pos (starEach es X.env)).any (·.1) = false := by rfl) :
    JC X cf P W (.Call (.Name x p) (a :: es) [] pos) (.call f dvs as) := by
  obtain ⟨fd, ps, ds, F, hb, hd, hk⟩ := h
  subst hg
  exact pe_callSD F hr hgl hm hk hb hd (fun σ => passAt tk σ) ha hdb he hpl
variable {oe : Expr} {m : Str} {ao : A}
theorem c_meth {pl : Sem Bool} (h : MetOk X.prog X.w X.K X.mg X.base ct P k m dvs) (hr : Room k X.A) (tk : Takes X W) (ho : JA1 X cf P W oe ao) (ha : JAs X cf P W (a :: es) as)
    (hst : starEach (a :: es) X.env = (false, eval a X.env) :: starEach es X.env := by rfl) (hpl : (backTo pos (starEach es X.env)).any (·.1) = false := by rfl)
    (ht : eval (.Call (.Attribute oe m apos) (a :: es) [] pos) X.env = (do
      let ov ← eval oe X.env
      standAt apos.atName
      let (f, first) ← holding [ov] (getMethod ov m pl)
      callWith pos f first (backTo pos (starEach (a :: es) X.env)) (backToKw pos (keywordEach [] X.env))) := by rfl) :
    JC X cf P W (.Call (.Attribute oe m apos) (a :: es) [] pos) (.meth m dvs ao as) := by
  refine ⟨fun pins s σ H Q I hh => ?_⟩
  refine PySem.W.methodCall_KW (pl := pl) (thn (ho.run pins s σ H _ I hh) fun u s1 hx => ?_) ht
  obtain ⟨x, H1, I1, rx, a0, c, C, dx, fs, f, ex, ea, hc, hmt, l, q⟩ := hx
  subst ex
  obtain rfl : u = Value.ref a0 := rx
  obtain ⟨fa, cl, hm, fd, ps, ds, F, hb, hd, hk⟩ := h c C f hc hmt
  refine getmeth_ok I1 ea cl hm l ?_
  refine PySem.W.callWith_K (first := [.ref a0]) (h₀ := X.base) I.ok.mod.kin hm.kp (thn (ha.run pos pins s1 σ H1 _ I1 q) fun us s2 hy => ?_) hst hpl
  obtain ⟨vs, H2, I2, r, q2⟩ := hy
  exact ⟨I2.kIn, run_fnSD (us := .ref a0 :: us) (vs := .ref a0 :: vs) F hr hb hd (passAt tk σ) I2 (.cons rfl r) q2⟩
theorem c_meth0 {pl : Sem Bool} (h : MetOk X.prog X.w X.K X.mg X.base ct P k m dvs) (hr : Room k X.A) (tk : Takes X W) (ho : JA1 X cf P W oe ao)
    (ht : eval (.Call (.Attribute oe m apos) [] [] pos) X.env = (do
      let ov ← eval oe X.env
      standAt apos.atName
      let (f, first) ← holding [ov] (getMethod ov m pl)
      callWith pos f first (backTo pos (starEach [] X.env)) (backToKw pos (keywordEach [] X.env))) := by rfl) :
    JC X cf P W (.Call (.Attribute oe m apos) [] [] pos) (.meth m dvs ao []) := by
  refine ⟨fun pins s σ H Q I hh => ?_⟩
  refine PySem.W.methodCall_KW (pl := pl) (thn (ho.run pins s σ H _ I hh) fun u s1 hx => ?_) ht
  obtain ⟨x, H1, I1, rx, a0, c, C, dx, fs, f, ex, ea, hc, hmt, l, q⟩ := hx
  subst ex
  obtain rfl : u = Value.ref a0 := rx
  obtain ⟨fa, cl, hm, fd, ps, ds, F, hb, hd, hk⟩ := h c C f hc hmt
  refine getmeth_ok I1 ea cl hm l ?_
  exact PySem.W.callWith_K0 (first := [.ref a0]) I1.kIn hm.kp (run_fnSD (us := [.ref a0]) (vs := [.ref a0]) F hr hb hd (passAt tk σ) I1 (.cons rfl .nil) q)
/-- tests -/
theorem u_b (h : JB X cf P W a ba) : JT X cf P W a (.b ba) := h
theorem u_c (h : JC X cf P W a cc) (he : ∀ whole, isTrue a X.env whole = (do let v ← whole; standAt a.pos; holding [v] (truthy v)) := by intro _; rfl) : JT X cf P W a (.c cc) := pt_val h he
theorem u_not {t1 : T} (h : JT X cf P W a t1) : JT X cf P W (.UnaryOp .Not a pos) (.not_ t1) := pt_not h
abbrev JWT (X : Cx) (cf : CfZ X.K ct sub) (P : Pg) (W : WX) (a : Expr) (e : T) : Prop := PW X a (semT (ops X.K ct sub cf) P W e)
theorem uw_and1 {t1 : T} (h : JT X cf P W a t1) : JWT X cf P W (.BoolOp .And [a] pos) t1 := pw_and1 h
theorem uw_or1 {t1 : T} (h : JT X cf P W a t1) : JWT X cf P W (.BoolOp .Or [a] pos) t1 := pw_or1 h
theorem uw_and {t1 t2 : T} (h : JT X cf P W a t1) (hb : JWT X cf P W (.BoolOp .And (b :: rest) pos) t2) : JWT X cf P W (.BoolOp .And (a :: b :: rest) pos) (.and_ t1 t2) := pw_and h hb
theorem uw_or {t1 t2 : T} (h : JT X cf P W a t1) (hb : JWT X cf P W (.BoolOp .Or (b :: rest) pos) t2) : JWT X cf P W (.BoolOp .Or (a :: b :: rest) pos) (.or_ t1 t2) := pw_or h hb
theorem u_w {t1 : T} (h : JWT X cf P W a t1) : JT X cf P W a t1 := h.pt
end
end LD
namespace LD
open PySem PySem.Spec PyProof.Rows L2
section
variable {X : Cx} {ct : Str → Option Addr} {sub : Str → Str → Option Bool} {cf : CfZ X.K ct sub} {P : Pg} {W : WX}
variable {a b c tg iter : Expr} {ea eb ec : E} {ba bb : B} {es rest : List Expr} {el : EL} {pos : Pos} {kr : Nat}

/-! ### methods of built-ins -/
theorem tyQ_is {pins : List (Addr × Obj)} {σ : L2.St} {H : Hp} {s : Shared} {T : String} {x : V} {v : Value} (I : Inv X pins σ H s) (r : RelV x v) (ty : tyQ X.K T x H) :
    s.TypeIs v T ∧ ∀ a, v = .ref a → ∃ ob, s.heap.get? a = some ob ∧ ob.dict = none := by
  cases x with
  | str z =>
    obtain ⟨t, rfl⟩ := r
    cases (show T = "str" from ty)
    exact ⟨typeIs_str s z t, fun _ e => nomatch e⟩
  | ref p =>
    rcases ty with ⟨rfl, xs, hq⟩ | ⟨rfl, kvs, hk⟩
    · exact tyV_is (T := "list") (x := .ref p) I r (.inl ⟨rfl, xs, hq⟩)
    · obtain rfl : v = Value.ref p := r
      obtain ⟨t1, t2, _⟩ := isD_at I (.inl ⟨kvs, hk⟩)
      exact ⟨t1, t2⟩
  | _ => exact ty.elim
variable {o e : Expr} {to : TE} {t : TA} {name : Str} {apos cpos : Pos} {T id : String} {r : V → List V → Hp → VK → Prop}
theorem pe_bm0q (pa : PlainAttrs T) (slot : Slot T name id) (hty : typeOf (.builtin id) = pure (.type "method_descriptor")) (hm : MtR X id r) (ho : PE X o to)
    (hbase : attributeBase o name X.env (eval o X.env) = eval o X.env) (hline : (apos.endLine == cpos.line) = true) : PE X (.Call (.Attribute o name apos) [] [] cpos) (fun σ H Q => to σ H fun x H1 => tyQ X.K T x H1 ∧ r x [] H1 Q) := by
  refine ⟨fun pins s σ H Q I h => ?_⟩
  refine wpAny_Call_method0_late hbase hline (thn (ho.run pins s σ H _ I h) fun v s1 hh => ?_)
  obtain ⟨x, H1, I1, r1, ty, q1⟩ := hh
  obtain ⟨h1, h2⟩ := tyQ_is I1 r1 ty
  exact ⟨T, id, pa, slot, hty, h1, h2, Calls.callWith_builtin rfl (PySem.evalArgs_none (hm pins s1 σ H1 x [] v [] Q I1 r1 .nil q1))⟩
theorem pe_bmq (pa : PlainAttrs T) (slot : Slot T name id) (hty : typeOf (.builtin id) = pure (.type "method_descriptor")) (hm : MtR X id r) (ho : PE X o to) (ha : PA X (e :: es) t)
    (hbase : attributeBase o name X.env (eval o X.env) = eval o X.env)
    (hfew : ((backTo cpos (starEach (e :: es) X.env)).all (fun x => !x.1) && (backToKw cpos (keywordEach [] X.env)).all (fun x => x.1.isSome)
      && decide ((e :: es).length + ([] : List Keyword).length + (if ([] : List Keyword).isEmpty then 0 else 1) < 30)) = true)
    (hline : (apos.endLine == cpos.line) = true) (hs : starEach (e :: es) X.env = (false, eval e X.env) :: starEach es X.env) (hplain : (backTo cpos (starEach es X.env)).any (·.1) = false) :
    PE X (.Call (.Attribute o name apos) (e :: es) [] cpos) (fun σ H Q => to σ H fun x H1 => tyQ X.K T x H1 ∧ t σ H1 fun vs H2 => r x vs H2 Q) := by
  refine ⟨fun pins s σ H Q I h => ?_⟩
  refine wpAny_Call_method_late hbase hfew hline rfl (thn (ho.run pins s σ H _ I h) fun v s1 hh => ?_)
  obtain ⟨x, H1, I1, r1, ty, q1⟩ := hh
  obtain ⟨h1, h2⟩ := tyQ_is I1 r1 ty
  refine ⟨T, id, pa, slot, hty, h1, h2, ?_⟩
  have hA := ha.run cpos pins s1 σ H1 _ I1 q1
  rw [hs] at hA ⊢
  refine Calls.callWith_builtin (by show (false || (backTo cpos (starEach es X.env)).any (·.1)) = false; rw [hplain] <;> rfl) (Calls.evalArgs_plain ?_)
  exact thn hA fun us s2 ⟨vs, H2, I2, r2, q2⟩ => hm pins s2 σ H2 x vs v us Q I2 r1 r2 q2
theorem mtq_insert : MtR X "list.insert" rInsertQ := mt_insert
theorem mtq_popK : MtR X "dict.pop" rPopKQ := by
  intro pins s σ H x xs v us Q I rx rs h
  obtain ⟨a, k, v0, kvs, rfl, rfl, e, hv, q⟩ := h
  obtain rfl : v = Value.ref a := rx
  obtain ⟨u, rfl, ru⟩ := vals1 rs
  exact d_pop I e ru hv (.inl rfl) fun w' s3 I3 rw' => ⟨v0, _, I3, rw', q⟩
theorem mtq_clearD : MtR X "dict.clear" rClearDQ := mtd_clear
theorem mtq_join : MtR X "str.join" (fun x xs H Q => rJoinQ X.K (x :: xs) H Q) := by
  intro pins s σ H x xs v us Q I rx rs h
  obtain ⟨a, p, ys, e, h1, h2, h3⟩ := h
  injection e with e1 e2
  subst e1
  subst e2
  exact mt_join pins s σ H _ _ v us Q I rx rs ⟨a, p, ys, rfl, rfl, h1, h2, h3⟩
theorem mtq_get1 (hu : X.A.units + 1 < cLine) : MtR X "dict.get" (fun x xs H Q => rGet1Q (x :: xs) H Q) := by
  intro pins s σ H x xs v us Q I rx rs h
  obtain ⟨a, y, o, e, hd, g, q⟩ := h
  injection e with e1 e2
  subst e1
  subst e2
  obtain rfl : v = Value.ref a := rx
  obtain ⟨u, rfl, ru⟩ := vals1 rs
  exact d_get1 hu I g ru fun w' s3 I3 rw' => ⟨_, H, I3, rw', q⟩
theorem mtq_get2 (hu : X.A.units + 1 < cLine) : MtR X "dict.get" (fun x xs H Q => rGet2Q (x :: xs) H Q) := by
  intro pins s σ H x xs v us Q I rx rs h
  obtain ⟨a, y, z, o, e, hd, g, q⟩ := h
  injection e with e1 e2
  subst e1
  subst e2
  obtain rfl : v = Value.ref a := rx
  obtain ⟨u1, u2, rfl, r1, r2⟩ := vals2 rs
  exact d_get2 hu I g r1 r2 fun w' s3 I3 rw' => ⟨_, H, I3, rw', q⟩
theorem mtq_index : MtR X "list.index" (fun x xs H Q => rIndexQ X.K (x :: xs) H Q) := by
  intro pins s σ H x xs v us Q I rx rs h
  obtain ⟨x', y, e, q⟩ := h
  injection e with e1 e2
  subst e1
  subst e2
  exact mt_index pins s σ H _ _ v us Q I rx rs q
/-- as pure expressions -/
theorem d_pm {ty : Ty} {po : POp} (pa : PlainAttrs ty.n) (slot : Slot ty.n name id) (hty : typeOf (.builtin id) = pure (.type "method_descriptor")) (hm : MtR X id (fun x xs H Q => opR X.K ct po (x :: xs) H Q)) (ho : JE X cf P W o ea) (ha : JA X cf P W (e :: es) el)
    (hbase : attributeBase o name X.env (eval o X.env) = eval o X.env)
    (hfew : ((backTo cpos (starEach (e :: es) X.env)).all (fun x => !x.1) && (backToKw cpos (keywordEach [] X.env)).all (fun x => x.1.isSome)
      && decide ((e :: es).length + ([] : List Keyword).length + (if ([] : List Keyword).isEmpty then 0 else 1) < 30)) = true)
    (hline : (apos.endLine == cpos.line) = true) (hs : starEach (e :: es) X.env = (false, eval e X.env) :: starEach es X.env) (hplain : (backTo cpos (starEach es X.env)).any (·.1) = false) :
    JE X cf P W (.Call (.Attribute o name apos) (e :: es) [] cpos) (.pm ty po ea el) := pe_bmq pa slot hty hm ho ha hbase hfew hline hs hplain
theorem m_join (ho : JE X cf P W o ea) (ha : JA X cf P W [e] el) (hbase : attributeBase o "join" X.env (eval o X.env) = eval o X.env := by rfl)
    (hfew : ((backTo cpos (starEach [e] X.env)).all (fun x => !x.1) && (backToKw cpos (keywordEach [] X.env)).all (fun x => x.1.isSome) && decide ([e].length + ([] : List Keyword).length + (if ([] : List Keyword).isEmpty then 0 else 1) < 30)) = true := by rfl)
    (hline : (apos.endLine == cpos.line) = true := by rfl) (hs : starEach [e] X.env = (false, eval e X.env) :: starEach [] X.env := by rfl) (hplain : (backTo cpos (starEach [] X.env)).any (·.1) = false := by rfl) :
    JE X cf P W (.Call (.Attribute o "join" apos) [e] [] cpos) (.pm .str .join ea el) := d_pm PySem.F.plainAttrs_str PySem.F.slot_str_join PySem.F.type_str_join mtq_join ho ha hbase hfew hline hs hplain
theorem m_get1 (hr : Room kr X.A) (ho : JE X cf P W o ea) (ha : JA X cf P W [e] el) (hbase : attributeBase o "get" X.env (eval o X.env) = eval o X.env := by rfl)
    (hfew : ((backTo cpos (starEach [e] X.env)).all (fun x => !x.1) && (backToKw cpos (keywordEach [] X.env)).all (fun x => x.1.isSome) && decide ([e].length + ([] : List Keyword).length + (if ([] : List Keyword).isEmpty then 0 else 1) < 30)) = true := by rfl)
    (hline : (apos.endLine == cpos.line) = true := by rfl) (hs : starEach [e] X.env = (false, eval e X.env) :: starEach [] X.env := by rfl) (hplain : (backTo cpos (starEach [] X.env)).any (·.1) = false := by rfl) :
    JE X cf P W (.Call (.Attribute o "get" apos) [e] [] cpos) (.pm .dict .get1 ea el) := d_pm PySem.F.plainAttrs_dict PySem.F.slot_dict_get PySem.F.type_dict_get (mtq_get1 (hu1 hr)) ho ha hbase hfew hline hs hplain
theorem m_get2 {e2 : Expr} (hr : Room kr X.A) (ho : JE X cf P W o ea) (ha : JA X cf P W [e, e2] el) (hbase : attributeBase o "get" X.env (eval o X.env) = eval o X.env := by rfl)
    (hfew : ((backTo cpos (starEach [e, e2] X.env)).all (fun x => !x.1) && (backToKw cpos (keywordEach [] X.env)).all (fun x => x.1.isSome) && decide ([e, e2].length + ([] : List Keyword).length + (if ([] : List Keyword).isEmpty then 0 else 1) < 30)) = true := by rfl)
    (hline : (apos.endLine == cpos.line) = true := by rfl) (hs : starEach [e, e2] X.env = (false, eval e X.env) :: starEach [e2] X.env := by rfl) (hplain : (backTo cpos (starEach [e2] X.env)).any (·.1) = false := by rfl) :
    JE X cf P W (.Call (.Attribute o "get" apos) [e, e2] [] cpos) (.pm .dict .get2 ea el) := d_pm PySem.F.plainAttrs_dict PySem.F.slot_dict_get PySem.F.type_dict_get (mtq_get2 (hu1 hr)) ho ha hbase hfew hline hs hplain
theorem m_index (ho : JE X cf P W o ea) (ha : JA X cf P W [e] el) (hbase : attributeBase o "index" X.env (eval o X.env) = eval o X.env := by rfl)
    (hfew : ((backTo cpos (starEach [e] X.env)).all (fun x => !x.1) && (backToKw cpos (keywordEach [] X.env)).all (fun x => x.1.isSome) && decide ([e].length + ([] : List Keyword).length + (if ([] : List Keyword).isEmpty then 0 else 1) < 30)) = true := by rfl)
    (hline : (apos.endLine == cpos.line) = true := by rfl) (hs : starEach [e] X.env = (false, eval e X.env) :: starEach [] X.env := by rfl) (hplain : (backTo cpos (starEach [] X.env)).any (·.1) = false := by rfl) :
    JE X cf P W (.Call (.Attribute o "index" apos) [e] [] cpos) (.pm .list .index ea el) := d_pm PySem.F.plainAttrs_list PySem.F.slot_list_index PySem.F.type_list_index mtq_index ho ha hbase hfew hline hs hplain
/-! ### changes -/
variable {i : Nat} {ps : List Pst} {as : List A} {mo : MOp} {ty : Ty}
/-- a change as an expression -/
def tMut (O : Ops X.K ct) (P : Pg) (W : WX) (ty : Ty) (i : Nat) (ps : List Pst) (mo : MOp) (as : List A) : TE := fun σ H Q => semPath O P W ps (tVar i) σ H fun x H1 => tyQ X.K ty.n x H1 ∧ semAs O P W as σ H1 fun vs H2 => moR X.K ct mo x vs H2 Q
theorem mu_1 (pa : PlainAttrs ty.n) (slot : Slot ty.n name id) (hty : typeOf (.builtin id) = pure (.type "method_descriptor")) (hm : MtR X id (moR X.K ct mo)) (ho : JP X cf P W i o ps) (ha : JAs X cf P W (e :: es) as)
    (hbase : attributeBase o name X.env (eval o X.env) = eval o X.env := by rfl)
    (hfew : ((backTo cpos (starEach (e :: es) X.env)).all (fun x => !x.1) && (backToKw cpos (keywordEach [] X.env)).all (fun x => x.1.isSome)
      && decide ((e :: es).length + ([] : List Keyword).length + (if ([] : List Keyword).isEmpty then 0 else 1) < 30)) = true := by rfl)
    (hline : (apos.endLine == cpos.line) = true := by rfl) (hs : starEach (e :: es) X.env = (false, eval e X.env) :: starEach es X.env := by rfl) (hplain : (backTo cpos (starEach es X.env)).any (·.1) = false := by rfl) :
    PE X (.Call (.Attribute o name apos) (e :: es) [] cpos) (tMut (ops X.K ct sub cf) P W ty i ps mo as) := pe_bmq pa slot hty hm ho ha hbase hfew hline hs hplain
theorem mu_0 (pa : PlainAttrs ty.n) (slot : Slot ty.n name id) (hty : typeOf (.builtin id) = pure (.type "method_descriptor")) (hm : MtR X id (moR X.K ct mo)) (ho : JP X cf P W i o ps)
    (hbase : attributeBase o name X.env (eval o X.env) = eval o X.env := by rfl) (hline : (apos.endLine == cpos.line) = true := by rfl) :
    PE X (.Call (.Attribute o name apos) [] [] cpos) (tMut (ops X.K ct sub cf) P W ty i ps mo []) := pe_bm0q pa slot hty hm ho hbase hline
theorem s_mut (h : PE X a (tMut (ops X.K ct sub cf) P W ty i ps mo as)) (hs : swapsWith a none pos.line X.env = pure false := by rfl) : JS X cf P W (.Expr a pos) (.mut none ty i ps mo as) := ps_expr h hs
theorem s_mutA {pt : Pat} (h : PE X a (tMut (ops X.K ct sub cf) P W ty i ps mo as)) (hg : PG X tg (gP X.K pt)) (hs : swapsWithSole [tg] a pos.line X.env = pure false := by rfl) (hw : swappedStores [tg] a X.env = pure none := by rfl) (h1 : (assignEach [tg] X.env).map (·.2) = [assign tg X.env] := by rfl) : JS X cf P W (.Assign [tg] a pos) (.mut (some pt) ty i ps mo as) := ps_asg h hg hs hw h1
theorem s_mutN (j : Nat) {x : Str} {p1 : Pos} (hN : X.N.Nodup) (h : PE X a (tMut (ops X.K ct sub cf) P W ty i ps mo as)) (hi : X.N[j]? = some x := by rfl) (hx : Loc X.env.scope x := by first | exact .inl rfl | exact .inr rfl) (hs : swapsWith a (some (.Name x p1)) pos.line X.env = pure false := by rfl)
    (hf : X.fn x = true ∨ X.env.scope.names.lookup x = some .local := by first | exact .inl rfl | exact .inr rfl) : JS X cf P W (.Assign [.Name x p1] a pos) (.mut (some (.one j)) ty i ps mo as) := ps_set hN hi hx h hs hf
/-- o[k] = v -/
theorem pset_q (hu : X.A.units + 1 < cLine) : PSet X (fun o k v H Q => rSetIQ o [k, v] H (fun _ H' => Q H')) := by
  intro pins s σ H o k v ov kv u Q I ro rk rv h
  obtain ⟨k', v', e, h⟩ := h
  cases e
  rcases h with h | ⟨p, H', eo, g, q⟩
  · exact set_list pins s σ H o k v ov kv u Q I ro rk rv h
  · exact set_dict hu pins s σ H o k v ov kv u Q I ro rk rv ⟨p, H', eo, g, q⟩
variable {value : Expr} {cc : C} {tpos : Pos}
theorem s_setI (hr : Room kr X.A) (hv : JC X cf P W value cc) (ho : JP X cf P W i o ps) (hb : JE X cf P W b eb) (hs : swapsWith value (some (.Subscript o b tpos)) pos.line X.env = pure false := by rfl) : JS X cf P W (.Assign [.Subscript o b tpos] value pos) (.setI i ps eb cc) := by
  refine ⟨fun pins s σ H D I h => ?_⟩
  refine wpAny_Assign_Subscript (thn (hv.run pins s σ H _ I h) fun r s1 hh => ?_) hs
  obtain ⟨v, H1, I1, rv, q1⟩ := hh
  refine thn (ho.run pins s1 σ H1 _ I1 q1) fun u s2 hh => ?_
  obtain ⟨x, H2, I2, rx, q2⟩ := hh
  refine thn (hb.run pins s2 σ H2 _ I2 q2) fun iv s3 hh => ?_
  obtain ⟨y, H3, I3, ry, q3⟩ := hh
  exact thn (pset_q (hu1 hr) pins s3 σ H3 x y v u iv r (fun H4 => D.nx σ H4) I3 rx ry rv q3) fun _ s4 ⟨H4, I4, q4⟩ => ⟨σ, H4, I4, q4⟩
theorem s_setF {f : Str} (na : Na X.K ct f) (hv : JC X cf P W value cc) (ho : JP X cf P W i o ps) (hs : swapsWith value (some (.Attribute o f tpos)) pos.line X.env = pure false := by rfl) : JS X cf P W (.Assign [.Attribute o f tpos] value pos) (.setF i ps f cc) := by
  refine ⟨fun pins s σ H D I h => ?_⟩
  refine plainObj_wpAny_Assign_Attribute (thn (hv.run pins s σ H _ I h) fun u s1 hh => ?_) hs
  obtain ⟨y, H1, I1, ry, q⟩ := hh
  refine thn (ho.run pins s1 σ H1 _ I1 q) fun ov s2 hh => ?_
  obtain ⟨x, H2, I2, rx, q2⟩ := hh
  obtain ⟨y', a, C, dx, fs, e, ex, ea, ⟨c, hc⟩, l, q2⟩ := q2
  cases e
  subst ex
  obtain rfl : ov = Value.ref a := rx
  exact setattr_ok I2 ea (na.cl c C hc.1 hc.2) (na.no c C hc.1 hc.2) l ry fun s3 I3 => ⟨σ, _, I3, q2⟩
/-- x op= e -/
theorem s_augA (j : Nat) {x : Str} {p1 : Pos} (hN : X.N.Nodup) (hv : JE X cf P W a ea) (hi : X.N[j]? = some x := by rfl) (hx : Loc X.env.scope x := by first | exact .inl rfl | exact .inr rfl) (hf : X.fn x = true ∨ X.env.scope.names.lookup x = some .local := by first | exact .inl rfl | exact .inr rfl) : JS X cf P W (.AugAssign (.Name x p1) .Add a pos) (.aug j false ea) := ps_aug hN hi hx hv ip_add hf
theorem s_augS (j : Nat) {x : Str} {p1 : Pos} (hN : X.N.Nodup) (hv : JE X cf P W a ea) (hi : X.N[j]? = some x := by rfl) (hx : Loc X.env.scope x := by first | exact .inl rfl | exact .inr rfl) (hf : X.fn x = true ∨ X.env.scope.names.lookup x = some .local := by first | exact .inl rfl | exact .inr rfl) : JS X cf P W (.AugAssign (.Name x p1) .Sub a pos) (.aug j true ea) := ps_aug hN hi hx hv ip_sub hf
theorem pget_q (hu : X.A.units + 1 < cLine) : PGet X (rGetQ X.K) := by
  intro pins s σ H x y v u Q I rx ry h
  rcases h with h | ⟨a, v0, rfl, g, q⟩
  · obtain ⟨p, xs, i, z, rfl, rfl, hq, he, q⟩ := h
    cases rx
    obtain ⟨t, rfl⟩ := ry
    obtain ⟨its, r, pl, hz⟩ := I.list hq
    obtain ⟨j, h1, h2, h3, h4, h5⟩ := atI_get he
    obtain ⟨w, ew, rw'⟩ := r.get h2
    have hl := r.length
    have hn := line63
    have fin : EP X pins σ Q w s := ⟨z, H, I, rw', q⟩
    by_cases h0 : 0 ≤ i
    · have hj : i.toNat = j := by
        rw [seqIndex_of h0 h5] at h1
        exact Option.some.inj h1
      exact wpAny_getItem_list pl.isList h0 (by omega) (by rw [hj]; simpa using ew) fin
    · have hj : (i + (its.toArray.size : Int)).toNat = j := by
        rw [seqIndex_neg (by omega) h4] at h1
        rw [List.size_toArray, ← hl]
        exact Option.some.inj h1
      exact wpAny_getItem_list_neg pl.isList (by omega) (by rw [List.size_toArray] <;> omega) (by omega) (by rw [hj]; simpa using ew) fin
  · obtain rfl : v = Value.ref a := rx
    exact d_getItem hu I g ry fun w' s3 I3 rw' => ⟨v0, H, I3, rw', q⟩
theorem s_augIA (hr : Room kr X.A) (ho : JP X cf P W i o ps) (hb : JE X cf P W b eb) (hv : JE X cf P W a ea) (hx : ∀ ov iv new, augStore b ov iv new = (do holding [new, ov, iv] (setItem ov iv new); release [new, ov, iv] []; pure .next) := by intros; rfl) : JS X cf P W (.AugAssign (.Subscript o b tpos) .Add a pos) (.augI i ps eb false ea) :=
  ps_augS ho hb (pget_q (hu1 hr)) hv ip_add (pset_q (hu1 hr)) hx
theorem s_augIS (hr : Room kr X.A) (ho : JP X cf P W i o ps) (hb : JE X cf P W b eb) (hv : JE X cf P W a ea) (hx : ∀ ov iv new, augStore b ov iv new = (do holding [new, ov, iv] (setItem ov iv new); release [new, ov, iv] []; pure .next) := by intros; rfl) : JS X cf P W (.AugAssign (.Subscript o b tpos) .Sub a pos) (.augI i ps eb true ea) :=
  ps_augS ho hb (pget_q (hu1 hr)) hv ip_sub (pset_q (hu1 hr)) hx
/-! ### defs -/
end
section
variable {Pr : Program} {w : World} {K : PySem.W.Frag} {mg : Str → Option Value} {base : Heap} {ct : Str → Option Addr} {sub : Str → Str → Option Bool}
theorem fn_ok (cf : Cf K ct sub) {Pg0 : Pg} (ft : ∀ z, Fit (ops K ct sub ⟨cf, z⟩) Pg0) {x qual : Str} {st : Stmt} {fa : Addr} {fd : FuncData} {N ps : List Str} {k n : Nat} {fn : Fn} (F : Fun K x qual st fa fd) (S : FnScope N ps (defScope st)) (hns : fn.np ≤ fn.ns) (hN : N.length = fn.ns) (hps : ps.length = fn.np)
    (hbody : ∀ (cdv : Value) (A : Around) (outer : List PySem.Env) (s : Shared) (H : Hp) (E : XK), Room k (A.deeper (envOfC qual (defScope st) s.heap.objs.size fa cdv)) →
      PSs (cxOf (L2.CX Pr w) Pr w K mg base N qual (defScope st) fa cdv A outer s H E) (defBody st) (semS (ops K ct sub ⟨cf, H⟩) (mops K ct) Pg0 (fun cls d _ H => E cls d H) fn.body)) :
    FnOk Pr w K mg base (L2.CX Pr w) (k + 1) fa fd ps (spR K ct (runF Pg0 moF n fn)) := by
  refine F.okX S (fun vs H Q E h => ?_) (fun cdv A outer s H vs Q E hr h => ⟨_, hbody cdv A outer s H E hr, ?_⟩)
  · obtain ⟨G, ds, fs, w, rl, hc⟩ := h
    rw [rl.length, hps]
    by_cases hl : ds.length = fn.np
    · exact hl
    · unfold runF at hc
      rw [if_neg hl] at hc
      exact hc.elim
  · exact fn_body (ft H) rfl hns hN h
end
end LD
namespace LD
open PySem PySem.Spec PyProof.Rows L2
section
variable {X : Cx} {ct : Str → Option Addr} {sub : Str → Str → Option Bool} {cf : CfZ X.K ct sub} {P : Pg} {W : WX}
variable {a b c : Expr} {ea eb ec : E} {ba bb : B} {es rest : List Expr} {el : EL} {pos : Pos} {kr : Nat}
theorem t_brw (i : Nat) (h : JB X cf P W a (.e ea)) : JB X cf P W a (.e (.brw i ea)) := h
theorem d_globI {x : Str} {v : Int} (hm : ∃ t, X.mg x = some (.int v t)) (hg : Gl X x := by rfl) (hd : (x == ("__debug__" : Str)) = false := by decide) : JE X cf P W (.Name x pos) (.c (.int v)) := by
  obtain ⟨t, e⟩ := hm
  exact pe_glob hg e ⟨t, rfl⟩ hd
theorem d_globS {x : Str} {v : Str} (hm : ∃ t, X.mg x = some (.str v t)) (hg : Gl X x := by rfl) (hd : (x == ("__debug__" : Str)) = false := by decide) : JE X cf P W (.Name x pos) (.c (.str v)) := by
  obtain ⟨t, e⟩ := hm
  exact pe_glob hg e ⟨t, rfl⟩ hd
end
/-! ### the end -/
def spEnd (K : PySem.W.Frag) : Sp := fun vs H Q _ => ∃ (a : Addr) (ns : List Int), vs = [.ref a] ∧ SqL K H a (ns.map V.int) ∧ ns.length ≤ 63 ∧ (∀ z ∈ ns, Builtin.Int.intBits z ≤ 1048576) ∧ ∀ H', Q (.bl true) H'
theorem rep_ints {K : PySem.W.Frag} {ct : Str → Option Addr} {G H : Hp} : ∀ ns : List Int, RepL K ct G H (ns.map D.int) (ns.map V.int) []
  | [] => by unfold RepL; exact ⟨rfl, rfl⟩
  | n :: ns => by
    rw [List.map_cons, List.map_cons]
    unfold RepL
    refine ⟨_, _, [], [], rfl, rfl, ?_, rep_ints ns⟩
    unfold RepD
    exact ⟨rfl, rfl⟩
/-- what the plain law must say -/
def Answers (run : List D → RF) : Prop := ∀ ns : List Int, ns.length ≤ 63 → (∀ z ∈ ns, Builtin.Int.intBits z ≤ 1048576) → ∃ fin, run [.lst false (ns.map D.int)] = .ok (.bl true) fin
theorem end_sp {K : PySem.W.Frag} {ct : Str → Option Addr} {run : List D → RF} (h : Answers run) (vs : List V) (H : Hp) (Q : VK) (E : XK) (q : spEnd K vs H Q E) : spR K ct run vs H Q E := by
  obtain ⟨a, ns, rfl, hS, hl, hb, q⟩ := q
  obtain ⟨fin, e⟩ := h ns hl hb
  refine ⟨H, [.lst false (ns.map D.int)], [], WS.nil (Le.of fun _ _ e => e), ?_, ?_⟩
  · unfold RepL
    refine ⟨_, _, [], [], rfl, rfl, ?_, ?_⟩
    · unfold RepD
      exact ⟨rfl, a, _, rfl, hS, rep_ints ns⟩
    · unfold RepL
      exact ⟨rfl, rfl⟩
  · rw [e]
    intro v G' H' fs' fp _ _ r
    unfold RepD at r
    rw [r.1]
    exact q H'
theorem walkLD {l : PySem.W.OpenLaw} {k : Nat} {q : Program} {loose : List Str} {XP : (Str → Option Value) → Heap → Prop} {YP : World → Heap → Prop} {d : DefRec} {K : Params → PySem.W.Frag} {x : Str} {run : List D → RF} (hn : l.most = some 63) (hdf : d.params.defaults = []) (hr : Room k callerA)
    (hY : ∀ (w : World) (h : Heap), YP w h → (K w.params).In h)
    (hA : Answers run)
    (F : ∀ (w : World) (mg : Str → Option Value) (fa : Addr) (h : Heap), (K w.params).In h → h.Ns mainGlobals mg → mg d.name = some (.ref fa) →
      ∃ (ct : Str → Option Addr) (fd : FuncData), (∀ (s : Shared) (u : Value), BindsTo s fd ⟨[u], []⟩ [(x, u)]) ∧ ∀ base : Heap, FnOk l.prog w (K w.params) mg base (L2.CX l.prog w) k fa fd [x] (spR (K w.params) ct run)) :
    PySem.W.WalkO q loose XP YP l.row.toRowW d [] (fun f vs => PySem.call f vs) := by
  refine walk_ofB (n := 63) (k := k) (x := x) (CX := fun w => L2.CX l.prog w) (sp := fun w => spEnd (K w.params)) hn (by decide) hdf hr hY ?_ (fun w H a ns hl hb _ hS => ⟨a, ns, rfl, hS, hl, hb, fun _ => rfl⟩) ?_
  · intro w mg fa h KX G hmg
    obtain ⟨ct, fd, b, hF⟩ := F w mg fa h KX G hmg
    exact ⟨fd, b, fun base _ _ => (hF base).imp fun vs H Q E => end_sp hA vs H Q E⟩
  · intro w H s e s' h
    obtain ⟨_, _, _, _, _, _, _, _, _, _, _, _, hE⟩ := h
    exact hE
end LD
namespace LD
open PySem PySem.Spec PyProof.Rows L2

/-! ### the interpreter, as equations to compute with -/
def ofO : Option D → R1 D
  | some d => .ok d
  | none => .bad
def eAt : Option (Option D) → R1 D
  | some (some d) => if d.fz = true then .ok d else .bad
  | _ => .bad
@[simp] theorem ofO_some (d : D) : ofO (some d) = .ok d := id rfl
@[simp] theorem eAt_some (d : D) : eAt (some (some d)) = if d.fz = true then .ok d else .bad := id rfl
@[simp] theorem R1.bind_ok {β γ : Type} (a : β) (f : β → R1 γ) : (R1.ok a).bind f = f a := id rfl
@[simp] theorem R1.bind_exc {β γ : Type} (x : D) (f : β → R1 γ) : (R1.exc x : R1 β).bind f = .exc x := id rfl
@[simp] theorem R1.bind_bad {β γ : Type} (f : β → R1 γ) : (R1.bad : R1 β).bind f = .bad := id rfl
@[simp] theorem RE.bind_ok {β γ : Type} (a : β) (α : Env) (f : β → Env → RE γ) : (RE.ok a α).bind f = f a α := id rfl
@[simp] theorem RE.bind_exc {β γ : Type} (x : D) (α : Env) (f : β → Env → RE γ) : (RE.exc x α : RE β).bind f = .exc x α := id rfl
@[simp] theorem RE.on_ok {β : Type} (a : β) (α : Env) (f : β → Env → RS) : (RE.ok a α).on f = f a α := id rfl
@[simp] theorem RE.on_exc {β : Type} (x : D) (α : Env) (f : β → Env → RS) : (RE.exc x α : RE β).on f = .exc x α := id rfl
@[simp] theorem R1.at_ok {β : Type} (a : β) (α : Env) : (R1.ok a).at α = .ok a α := id rfl
@[simp] theorem R1.at_exc {β : Type} (x : D) (α : Env) : (R1.exc x : R1 β).at α = .exc x α := id rfl
@[simp] theorem RS.then_nx (α : Env) (f : Env → RS) : (RS.nx α).then_ f = f α := id rfl
@[simp] theorem RS.then_ret (d : D) (α : Env) (f : Env → RS) : (RS.ret d α).then_ f = .ret d α := id rfl
@[simp] theorem RS.then_brk (α : Env) (f : Env → RS) : (RS.brk α).then_ f = .brk α := id rfl
@[simp] theorem RS.then_ct (α : Env) (f : Env → RS) : (RS.ct α).then_ f = .ct α := id rfl
@[simp] theorem RS.then_exc (x : D) (α : Env) (f : Env → RS) : (RS.exc x α).then_ f = .exc x α := id rfl
@[simp] theorem RF.val_ok (r : D) (fin : List (Option D)) : (RF.ok r fin).val = .ok r := id rfl
@[simp] theorem RF.val_exc (r : D) (fin : List (Option D)) : (RF.exc r fin).val = .exc r := id rfl
@[simp] theorem RF.made_ok (d : D) (fin : List (Option D)) : (RF.ok .non (some d :: fin)).made = .ok d := id rfl
def R1.onS {β : Type} (α : Env) (r : R1 β) (f : β → RS) : RS := match r with
  | .ok a => f a
  | .exc x => .exc x α
  | .bad => .bad
def getS (o : Option (Option D)) (f : D → RS) : RS := match o with
  | some (some d) => f d
  | _ => .bad
def optS {β : Type} (o : Option β) (f : β → RS) : RS := match o with
  | some b => f b
  | none => .bad
def optR {β γ : Type} (o : Option β) (f : β → R1 γ) : R1 γ := match o with
  | some b => f b
  | none => .bad
def getO {β : Type} (o : Option (Option D)) (f : D → Option β) : Option β := match o with
  | some (some d) => f d
  | _ => none
@[simp] theorem onS_ok {β : Type} (α : Env) (a : β) (f : β → RS) : R1.onS α (.ok a) f = f a := id rfl
@[simp] theorem onS_exc {β : Type} (α : Env) (x : D) (f : β → RS) : R1.onS α (.exc x) f = .exc x α := id rfl
@[simp] theorem getS_some (d : D) (f : D → RS) : getS (some (some d)) f = f d := id rfl
@[simp] theorem optS_some {β : Type} (d : β) (f : β → RS) : optS (some d) f = f d := id rfl
@[simp] theorem optR_some {β γ : Type} (d : β) (f : β → R1 γ) : optR (some d) f = f d := id rfl
@[simp] theorem getO_some {β : Type} (d : D) (f : D → Option β) : getO (some (some d)) f = f d := id rfl
variable (P : Pg) (mf : MOp → D → List D → Option (D × D)) (n : Nat) (α : Env)
@[simp] theorem ev_c (c : Cst) : evE P (.c c) α = .ok c.d := by simp only [evE]
@[simp] theorem ev_v (i : Nat) : evE P (.v i) α = eAt α[i]? := by
  simp only [evE]
  rcases α[i]? with _ | _ | d <;> rfl
@[simp] theorem ev_frz (e : E) : evE P (.frz e) α = (evE P e α).bind fun d => .ok d.freeze := by simp only [evE]
def brwEnd : R1 D → R1 D
  | .ok r => if r.clean = true then .ok r else .bad
  | .exc x => if x.clean = true then .exc x else .bad
  | .bad => .bad
def brwAt (i : Nat) (α : Env) (f : Env → R1 D) : Option (Option D) → R1 D
  | some (some d) => brwEnd (f (α.set i (some d.freeze)))
  | _ => .bad
@[simp] theorem brwEnd_ok (d : D) : brwEnd (.ok d) = if d.clean = true then .ok d else .bad := id rfl
@[simp] theorem brwAt_some (i : Nat) (f : Env → R1 D) (d : D) : brwAt i α f (some (some d)) = brwEnd (f (α.set i (some d.freeze))) := id rfl
@[simp] theorem ev_brw (i : Nat) (e : E) : evE P (.brw i e) α = brwAt i α (evE P e) α[i]? := by
  simp only [evE]
  rcases α[i]? with _ | _ | d
  · rfl
  · rfl
  · show _ = brwEnd _
    unfold brwEnd
    rfl
@[simp] theorem ev_prim (o : POp) (es : EL) : evE P (.prim o es) α = (evL P es α).bind fun ds => ofO (P.f o ds) := by
  simp only [evE]
  rcases evL P es α with ds | x | _
  · rcases h : P.f o ds <;> simp [h, ofO]
  · rfl
  · rfl
@[simp] theorem ev_pm (T : Ty) (o : POp) (r : E) (es : EL) : evE P (.pm T o r es) α = (evE P r α).bind fun d => if tyD T d = true then (evL P es α).bind fun ds => ofO (P.f o (d :: ds)) else .bad := by
  simp only [evE]
  rfl
@[simp] theorem ev_tup (es : EL) : evE P (.tup es) α = (evL P es α).bind fun ds => if ds.length < lim then .ok (.tup ds) else .bad := by simp only [evE]
@[simp] theorem ev_lst (es : EL) : evE P (.lst es) α = (evL P es α).bind fun ds => if ds.length < lim then .ok (.lst true ds) else .bad := by simp only [evE]
def andD (b : R1 D) : D → R1 D
  | .bl true => b
  | .bl false => .ok (.bl false)
  | _ => .bad
def orD (b : R1 D) : D → R1 D
  | .bl false => b
  | .bl true => .ok (.bl true)
  | _ => .bad
def notD : D → R1 D
  | .bl k => .ok (.bl (!k))
  | _ => .bad
def blD : D → R1 Bool
  | .bl k => .ok k
  | _ => .bad
@[simp] theorem andD_bl (b : R1 D) (k : Bool) : andD b (.bl k) = if k = true then b else .ok (.bl false) := by cases k <;> rfl
@[simp] theorem orD_bl (b : R1 D) (k : Bool) : orD b (.bl k) = if k = true then .ok (.bl true) else b := by cases k <;> rfl
@[simp] theorem notD_bl (k : Bool) : notD (.bl k) = .ok (.bl (!k)) := id rfl
@[simp] theorem blD_bl (k : Bool) : blD (.bl k) = .ok k := id rfl
@[simp] theorem ev_and (a b : E) : evE P (.and_ a b) α = (evE P a α).bind (andD (evE P b α)) := by
  simp only [evE]
  rfl
@[simp] theorem ev_or (a b : E) : evE P (.or_ a b) α = (evE P a α).bind (orD (evE P b α)) := by
  simp only [evE]
  rfl
@[simp] theorem ev_not (a : E) : evE P (.not_ a) α = (evE P a α).bind notD := by
  simp only [evE]
  rfl
@[simp] theorem ev_ife (c : B) (a b : E) : evE P (.ife c a b) α = (evB P c α).bind fun k => if k = true then evE P a α else evE P b α := by simp only [evE]
@[simp] theorem ev_call (f : Str) (dvs : List Cst) (es : EL) : evE P (.call f dvs es) α = (evL P es α).bind fun ds => (P.cal f (ds ++ dvs.map Cst.d)).val := by simp only [evE]
@[simp] theorem ev_chain (a b c : E) : evE P (.chain a b c) α = (evE P a α).bind (chLe (evE P b α) (evE P c α)) := by simp only [evE]
@[simp] theorem chLe_int (b c : R1 D) (i : Int) : chLe b c (.int i) = b.bind (chLe1 c i) := id rfl
@[simp] theorem chLe1_int (c : R1 D) (i j : Int) : chLe1 c i (.int j) = if i ≤ j then c.bind (chLe2 j) else .ok (.bl false) := id rfl
@[simp] theorem chLe2_int (j l : Int) : chLe2 j (.int l) = .ok (.bl (decide (j ≤ l))) := id rfl
def mtD (P : Pg) (m : Str) (dvs : List Cst) (l : R1 (List D)) (d : D) : R1 D := match clsOf d with
  | none => .bad
  | some c => if noField m d = true then match P.mt c m with
    | none => .bad
    | some f => l.bind fun ds => (P.cal f (d :: (ds ++ dvs.map Cst.d))).val
    else .bad
@[simp] theorem ev_meth (m : Str) (dvs : List Cst) (r : E) (es : EL) : evE P (.meth m dvs r es) α = (evE P r α).bind (mtD P m dvs (evL P es α)) := by
  simp only [evE]
  rfl
@[simp] theorem ev_make (c f : Str) (dvs : List Cst) (es : EL) : evE P (.make c f dvs es) α = if P.cs.contains c = true then (evL P es α).bind fun ds => (P.cal f (.ins true c [] [] :: (ds ++ dvs.map Cst.d))).made else .bad := by simp only [evE]
/-- a comprehension's turn -/
def lcTurn (P : Pg) (p : Pat) (b : B) (e : E) (β : Env) (d : D) : R1 (Option D) := match asgP p d β with
  | none => .bad
  | some α1 => (evB P b α1).bind fun k => if k = true then (evE P e α1).bind fun x => .ok (some x) else .ok none
def lcOn (f : D → R1 (Option D)) : Option (List D) → R1 D
  | none => .bad
  | some items => if items.length < lim then lcGo f items [] else .bad
@[simp] theorem lcOn_some (f : D → R1 (Option D)) (items : List D) : lcOn f (some items) = if items.length < lim then lcGo f items [] else .bad := id rfl
@[simp] theorem slots_one (i : Nat) : Pat.slots (.one i) = [i] := by simp only [Pat.slots]
@[simp] theorem slots_tup (ps : List Pat) : Pat.slots (.tup ps) = Pat.slotsL ps := by simp only [Pat.slots]
@[simp] theorem slotsL_nil : Pat.slotsL [] = [] := by simp only [Pat.slotsL]
@[simp] theorem slotsL_cons (p : Pat) (ps : List Pat) : Pat.slotsL (p :: ps) = p.slots ++ Pat.slotsL ps := by simp only [Pat.slotsL]
@[simp] theorem wipe_nil : wipeE α [] = α := by simp only [wipeE]
@[simp] theorem wipe_cons (i : Nat) (r : List Nat) : wipeE α (i :: r) = (wipeE α r).set i none := by simp only [wipeE]
@[simp] theorem ev_lc (own : List Nat) (p : Pat) (o : IOp) (es : EL) (b : B) (e : E) (h : p.slots.all own.contains = true) : evE P (.lc own p o es b e) α = (evL P es α).bind fun ds => lcOn (lcTurn P p b e (wipeE α own)) (P.fi o (D.freezeL ds)) := by
  simp only [evE]
  rw [if_pos h]
  rfl
@[simp] theorem el_nil : evL P .nil α = .ok [] := by simp only [evL]
@[simp] theorem el_cons (e : E) (es : EL) : evL P (.cons e es) α = (evE P e α).bind fun d => (evL P es α).bind fun ds => .ok (d :: ds) := by simp only [evL]
@[simp] theorem eb_tt : evB P .tt α = .ok true := by simp only [evB]
@[simp] theorem eb_e (e : E) : evB P (.e e) α = (evE P e α).bind blD := by
  simp only [evB]
  rfl
@[simp] theorem eb_and (a b : B) : evB P (.and_ a b) α = (evB P a α).bind fun k => if k = true then evB P b α else .ok false := by simp only [evB]
@[simp] theorem eb_or (a b : B) : evB P (.or_ a b) α = (evB P a α).bind fun k => if k = true then .ok true else evB P b α := by simp only [evB]
@[simp] theorem eb_not (a : B) : evB P (.not_ a) α = (evB P a α).bind fun k => .ok (!k) := by simp only [evB]
/-- changes -/
@[simp] theorem ec_e (e : E) : evC P (.e e) α = (evE P e α).at α := by simp only [evC]
@[simp] theorem ec_frz (c : C) : evC P (.frz c) α = (evC P c α).bind fun d α => .ok d.freeze α := by simp only [evC]
def meAt (i : Nat) (α : Env) : Option (Option D) → RE D
  | some (some d) => .ok d (α.set i none)
  | _ => .bad
@[simp] theorem meAt_some (i : Nat) (d : D) : meAt i α (some (some d)) = .ok d (α.set i none) := id rfl
@[simp] theorem ec_mv (i : Nat) : evC P (.mv i) α = meAt i α α[i]? := by
  simp only [evC]
  rcases α[i]? with _ | _ | d <;> rfl
@[simp] theorem ec_tup (cs : CL) : evC P (.tup cs) α = (evCL P cs α).bind fun ds α => if ds.length < lim then .ok (.tup ds) α else .bad := by simp only [evC]
@[simp] theorem ec_lst (cs : CL) : evC P (.lst cs) α = (evCL P cs α).bind fun ds α => if ds.length < lim then .ok (.lst true ds) α else .bad := by simp only [evC]
@[simp] theorem ecl_nil : evCL P .nil α = .ok [] α := by simp only [evCL]
@[simp] theorem ecl_cons (c : C) (cs : CL) : evCL P (.cons c cs) α = (evC P c α).bind fun d α => (evCL P cs α).bind fun ds α => .ok (d :: ds) α := by simp only [evCL]
@[simp] theorem ec_call (f : Str) (dvs : List Cst) (as : List A) : evC P (.call f dvs as) α = (evAs P as α).bind fun its α => callC P f dvs its α := by simp only [evC]
def metC (P : Pg) (m : Str) (dvs : List Cst) (as : List A) (it : Itm) (α : Env) : Option D → RE D
  | none => .bad
  | some d => match clsOf d with
    | none => .bad
    | some c => if noField m d = true then match P.mt c m with
      | none => .bad
      | some f => (evAs P as α).bind fun its α => callC P f dvs (it :: its) α
      else .bad
@[simp] theorem ec_meth (m : Str) (dvs : List Cst) (r : A) (as : List A) : evC P (.meth m dvs r as) α = (evA P r α).bind fun it α => metC P m dvs as it α (itD α it) := by
  simp only [evC]
  rcases evA P r α with ⟨it, β⟩ | _ | _
  · simp only [RE.bind_ok]
    rcases itD β it with _ | d <;> rfl
  · rfl
  · rfl
@[simp] theorem et_b (b : B) : evT P (.b b) α = (evB P b α).at α := by simp only [evT]
def blC (d : D) (α : Env) : RE Bool := match d with
  | .bl k => .ok k α
  | _ => .bad
@[simp] theorem blC_bl (k : Bool) : blC (.bl k) α = .ok k α := id rfl
@[simp] theorem et_c (c : C) : evT P (.c c) α = (evC P c α).bind blC := by
  simp only [evT]
  rfl
@[simp] theorem et_and (a b : T) : evT P (.and_ a b) α = (evT P a α).bind fun k α => if k = true then evT P b α else .ok false α := by simp only [evT]
@[simp] theorem et_or (a b : T) : evT P (.or_ a b) α = (evT P a α).bind fun k α => if k = true then .ok true α else evT P b α := by simp only [evT]
@[simp] theorem et_not (a : T) : evT P (.not_ a) α = (evT P a α).bind fun k α => .ok (!k) α := by simp only [evT]
/-- statements -/
@[simp] theorem rs_skip : runS P mf n .skip α = .nx α := by simp only [runS]
@[simp] theorem rs_seq (a b : S) : runS P mf n (.seq a b) α = (runS P mf n a α).then_ (runS P mf n b) := by simp only [runS]
@[simp] theorem rs_asg (p : Pat) (c : C) : runS P mf n (.asg p c) α = (evC P c α).on (asgR p) := by simp only [runS]
@[simp] theorem rs_drop (c : C) : runS P mf n (.drop c) α = (evC P c α).on fun _ α => .nx α := by simp only [runS]
@[simp] theorem rs_ret (c : C) : runS P mf n (.ret c) α = (evC P c α).on .ret := by simp only [runS]
@[simp] theorem rs_retN : runS P mf n .retN α = .ret .non α := by simp only [runS]
@[simp] theorem rs_ife (t : T) (a b : S) : runS P mf n (.ife t a b) α = (evT P t α).on fun k α => if k = true then runS P mf n a α else runS P mf n b α := by simp only [runS]
@[simp] theorem rs_brk : runS P mf n .brk α = .brk α := by simp only [runS]
@[simp] theorem rs_cnt : runS P mf n .cnt α = .ct α := by simp only [runS]
@[simp] theorem rs_par (i j : Nat) (a b : E) : runS P mf n (.par i j a b) α = (evC P (.e a) α).on fun d α => (evC P (.e b) α).on fun e α => if (D.fz d && D.fz e) = true then if i < α.length ∧ j < α.length then .nx ((α.set i (some d)).set j (some e)) else .bad else .bad := by simp only [runS]
section
variable {P : Pg} {mf : MOp → D → List D → Option (D × D)} {n : Nat} {α β : Env}
/-- a text, statement by statement -/
theorem seq_nx {a b : S} {o : RS} (h : runS P mf n a α = .nx β) (k : runS P mf n b β = o) : runS P mf n (.seq a b) α = o := by rw [rs_seq, h]; exact k
theorem seq_ret {a b : S} {d : D} (h : runS P mf n a α = .ret d β) : runS P mf n (.seq a b) α = .ret d β := by rw [rs_seq, h]; rfl
theorem frz_st {i : Nat} {s : S} {d : D} {o : RS} (h : α[i]? = some (some d)) (k : runS P mf n s (α.set i (some d.freeze)) = o) : runS P mf n (.frz i s) α = o := by
  simp only [runS]
  rw [h]
  exact k
end
def forD (P : Pg) (mf : MOp → D → List D → Option (D × D)) (n : Nat) (p : Pat) (b : S) (d : D) (α : Env) : RS := match asgP p d α with
  | none => .bad
  | some α1 => runS P mf n b α1
@[simp] theorem gX_lst (r : RS) : gX .lst r = r := id rfl
@[simp] theorem gX_tup (r : RS) : gX .tup r = r := id rfl
@[simp] theorem gX_enum (r : RS) : gX .enum r = r := id rfl
@[simp] theorem gX_zip (r : RS) : gX .zip r = r := id rfl
@[simp] theorem gX_rng1 (r : RS) : gX .rng1 r = r := id rfl
@[simp] theorem gX_rng2 (r : RS) : gX .rng2 r = r := id rfl
@[simp] theorem gX_rng3 (r : RS) : gX .rng3 r = r := id rfl
@[simp] theorem gX_revL (r : RS) : gX .revL r = r := id rfl
@[simp] theorem gX_revR1 (r : RS) : gX .revR1 r = r := id rfl
@[simp] theorem gX_str (r : RS) : gX .str r = r := id rfl
@[simp] theorem gX_keys_nx (α : Env) : gX .keys (.nx α) = .nx α := id rfl
@[simp] theorem gX_keys_brk (α : Env) : gX .keys (.brk α) = .brk α := id rfl
@[simp] theorem gX_keys_ct (α : Env) : gX .keys (.ct α) = .ct α := id rfl
@[simp] theorem gX_items_nx (α : Env) : gX .items (.nx α) = .nx α := id rfl
@[simp] theorem gX_items_brk (α : Env) : gX .items (.brk α) = .brk α := id rfl
@[simp] theorem gX_items_ct (α : Env) : gX .items (.ct α) = .ct α := id rfl
@[simp] theorem gX_vals_nx (α : Env) : gX .vals (.nx α) = .nx α := id rfl
@[simp] theorem gX_vals_brk (α : Env) : gX .vals (.brk α) = .brk α := id rfl
@[simp] theorem gX_vals_ct (α : Env) : gX .vals (.ct α) = .ct α := id rfl
@[simp] theorem gX_keys_ret (d : D) (α : Env) : gX .keys (.ret d α) = .ret d α := id rfl
@[simp] theorem gX_items_ret (d : D) (α : Env) : gX .items (.ret d α) = .ret d α := id rfl
@[simp] theorem gX_vals_ret (d : D) (α : Env) : gX .vals (.ret d α) = .ret d α := id rfl
def forOn (o : IOp) (f : D → Env → RS) (α : Env) : Option (List D) → RS
  | none => .bad
  | some items => gX o (forGo f items α)
def evIt (P : Pg) (o : IOp) (α : Env) (f : D → Env → RS) : R1 (List D) → RS
  | .exc x => .exc x α
  | .bad => .bad
  | .ok ds => forOn o f α (P.fi o (D.freezeL ds))
@[simp] theorem forOn_some (o : IOp) (f : D → Env → RS) (items : List D) : forOn o f α (some items) = gX o (forGo f items α) := id rfl
@[simp] theorem evIt_ok (o : IOp) (f : D → Env → RS) (ds : List D) : evIt P o α f (.ok ds) = forOn o f α (P.fi o (D.freezeL ds)) := id rfl
@[simp] theorem rs_for (p : Pat) (o : IOp) (es : EL) (b : S) : runS P mf n (.for_ p o es b) α = evIt P o α (forD P mf n p b) (evL P es α) := by
  simp only [runS]
  rcases evL P es α with ds | x | _
  · simp only [evIt]
    rcases P.fi o (D.freezeL ds) with _ | items
    · rfl
    · rfl
  · rfl
  · rfl
@[simp] theorem rs_frz (i : Nat) (s : S) : runS P mf n (.frz i s) α = getS α[i]? fun d => runS P mf n s (α.set i (some d.freeze)) := by
  simp only [runS]
  rfl
@[simp] theorem rs_setF (i : Nat) (ps : List Pst) (f : Str) (c : C) : runS P mf n (.setF i ps f c) α = (evC P c α).on fun y α => getS α[i]? fun d => R1.onS α (evPath P α ps d) fun p => optS (mutAt mf (.setF f) i p [y] α) fun q => .nx q.2 := by
  simp only [runS]
  congr 1
  funext y β
  rcases β[i]? with _ | _ | d
  · rfl
  · rfl
  · simp only [getS]
    rcases evPath P β ps d with p | x | _
    · simp only [R1.onS]
      rcases mutAt mf (.setF f) i p [y] β with _ | ⟨u, γ⟩ <;> rfl
    · rfl
    · rfl
@[simp] theorem rs_setI (i : Nat) (ps : List Pst) (e : E) (c : C) : runS P mf n (.setI i ps e c) α = (evC P c α).on fun y α => getS α[i]? fun d => R1.onS α (evPath P α ps d) fun p => R1.onS α (evE P e α) fun k => optS (mutAt mf .setI i p [k, y] α) fun q => .nx q.2 := by
  simp only [runS]
  congr 1
  funext y β
  rcases β[i]? with _ | _ | d
  · rfl
  · rfl
  · simp only [getS]
    rcases evPath P β ps d with p | x | _
    · simp only [R1.onS]
      rcases evE P e β with k | x | _
      · simp only
        rcases mutAt mf .setI i p [k, y] β with _ | ⟨u, γ⟩ <;> rfl
      · rfl
      · rfl
    · rfl
    · rfl
@[simp] theorem rs_mut (pt : Option Pat) (ty : Ty) (i : Nat) (ps : List Pst) (o : MOp) (as : List A) : runS P mf n (.mut pt ty i ps o as) α = getS α[i]? fun d => R1.onS α (evPath P α ps d) fun p => optS (getAt p d) fun x => if tyD ty x = true then (evAs P as α).on fun its α => optS (vals its) fun ds => optS (mutAt mf o i p ds α) fun q => asgO pt q.1 q.2 else .bad := by
  simp only [runS]
  rcases α[i]? with _ | _ | d
  · rfl
  · rfl
  · simp only [getS]
    rcases evPath P α ps d with p | x | _
    · simp only [R1.onS]
      rcases getAt p d with _ | x
      · rfl
      · simp only [optS]
        split
        · congr 1
          funext its β
          rcases vals its with _ | ds
          · rfl
          · simp only
            rcases mutAt mf o i p ds β with _ | ⟨u, γ⟩ <;> rfl
        · rfl
    · rfl
    · rfl
def augV (i : Nat) (sub : Bool) (x : Int) (α : Env) : D → RS
  | .int y => .nx (α.set i (some (.int (sgn sub x y))))
  | _ => .bad
def augS (P : Pg) (i : Nat) (sub : Bool) (e : E) (α : Env) : D → RS
  | .int x => R1.onS α (evE P e α) (augV i sub x α)
  | _ => .bad
@[simp] theorem augV_int (i : Nat) (sub : Bool) (x y : Int) : augV i sub x α (.int y) = .nx (α.set i (some (.int (sgn sub x y)))) := id rfl
@[simp] theorem augS_int (i : Nat) (sub : Bool) (e : E) (x : Int) : augS P i sub e α (.int x) = R1.onS α (evE P e α) (augV i sub x α) := id rfl
@[simp] theorem sgn_f (x y : Int) : sgn false x y = x + y := id rfl
@[simp] theorem sgn_t (x y : Int) : sgn true x y = x - y := id rfl
@[simp] theorem rs_aug (i : Nat) (sub : Bool) (e : E) : runS P mf n (.aug i sub e) α = getS α[i]? (augS P i sub e α) := by
  simp only [runS]
  rcases α[i]? with _ | _ | d
  · rfl
  · rfl
  · cases d <;> try rfl
    simp only [getS, augS, R1.onS]
    rcases evE P e α with d | x | _
    · cases d <;> rfl
    · rfl
    · rfl
@[simp] theorem mutAt_eq (o : MOp) (i : Nat) (p : List Nat) (ds : List D) : mutAt mf o i p ds α = getO α[i]? fun d => (getAt p d).bind fun x => (mf o x ds).bind fun q => some (q.2, α.set i (some (setAt p d q.1))) := by
  unfold mutAt getO
  rcases α[i]? with _ | _ | d
  · rfl
  · rfl
  · simp only
    rcases getAt p d with _ | x
    · rfl
    · simp only [Option.bind_some]
      rcases mf o x ds with _ | q <;> rfl
@[simp] theorem path_nil (d : D) : evPath P α [] d = .ok [] := by simp only [evPath]
@[simp] theorem path_fld (f : Str) (ps : List Pst) (d : D) : evPath P α (.fld f :: ps) d = optR (fldKid f d) fun k => optR (getAt [k] d) fun x => (evPath P α ps x).bind fun p => .ok (k :: p) := by
  simp only [evPath]
  rcases fldKid f d with _ | k
  · rfl
  · simp only [optR]
    rcases getAt [k] d with _ | x <;> rfl
@[simp] theorem path_ix (e : E) (ps : List Pst) (d : D) : evPath P α (.ix e :: ps) d = (evE P e α).bind fun i => optR (ixKid d i) fun k => optR (getAt [k] d) fun x => (evPath P α ps x).bind fun p => .ok (k :: p) := by
  simp only [evPath]
  rcases evE P e α with i | x | _
  · simp only [R1.bind_ok]
    rcases ixKid d i with _ | k
    · rfl
    · simp only [optR]
      rcases getAt [k] d with _ | x <;> rfl
  · rfl
  · rfl
@[simp] theorem getAt_nil (d : D) : getAt [] d = some d := id rfl
@[simp] theorem setAt_nil (d x : D) : setAt [] d x = x := id rfl
@[simp] theorem asgO_n (d : D) : asgO none d α = .nx α := id rfl
@[simp] theorem asgO_s (p : Pat) (d : D) : asgO (some p) d α = asgR p d α := id rfl
@[simp] theorem vals_nil : vals [] = some [] := id rfl
@[simp] theorem vals_cons (d : D) (its : List Itm) : vals (.val d :: its) = (vals its).map (d :: ·) := id rfl
def onA {β : Type} (α : Env) (r : R1 D) (f : D → RE β) : RE β := match r with
  | .ok d => f d
  | .exc x => .exc x α
  | .bad => .bad
@[simp] theorem onA_ok {β : Type} (d : D) (f : D → RE β) : onA α (.ok d) f = f d := id rfl
@[simp] theorem ea_e (e : E) : evA P (.e e) α = onA α (evE P e α) fun d => .ok (.val d) α := by
  rcases h : evE P e α with d | x | _ <;> simp only [evA, onA, h]
def mvA (i : Nat) (α : Env) : Option (Option D) → RE Itm
  | some (some d) => .ok (.val d) (α.set i none)
  | _ => .bad
def ioA (P : Pg) (i : Nat) (p : List Pst) (α : Env) : Option (Option D) → RE Itm
  | some (some d) => (evPath P α p d).at α |>.bind fun q α => .ok (.io i q) α
  | _ => .bad
@[simp] theorem mvA_some (i : Nat) (d : D) : mvA i α (some (some d)) = .ok (.val d) (α.set i none) := id rfl
@[simp] theorem ioA_some (i : Nat) (p : List Pst) (d : D) : ioA P i p α (some (some d)) = ((evPath P α p d).at α).bind fun q α => .ok (.io i q) α := id rfl
@[simp] theorem ea_mv (i : Nat) : evA P (.mv i) α = mvA i α α[i]? := by
  simp only [evA]
  rcases α[i]? with _ | _ | d <;> rfl
@[simp] theorem ea_io (i : Nat) (p : List Pst) : evA P (.io i p) α = ioA P i p α α[i]? := by
  simp only [evA]
  rcases α[i]? with _ | _ | d
  · rfl
  · rfl
  · simp only [ioA]
    rcases evPath P α p d with q | x | _ <;> rfl
@[simp] theorem eas_nil : evAs P [] α = .ok [] α := by simp only [evAs]
@[simp] theorem eas_cons (a : A) (as : List A) : evAs P (a :: as) α = (evA P a α).bind fun it α1 => (evAs P as α1).bind fun its α2 => .ok (it :: its) α2 := by simp only [evAs]
@[simp] theorem fidx_nil (f : Str) : List.findIdx? (fun h => decide (h = f)) [] = none := id rfl
@[simp] theorem fidx_cons (f g : Str) (fs : List Str) : List.findIdx? (fun h => decide (h = f)) (g :: fs) = if g = f then some 0 else (List.findIdx? (fun h => decide (h = f)) fs).map (· + 1) := by
  rw [List.findIdx?_cons]
  by_cases h : g = f <;> simp [h]
@[simp] theorem mo_append (l : List D) (x : D) : moF .append (.lst true l) [x] = if l.length < lim then some (.lst true (l ++ [x]), .non) else none := id rfl
@[simp] theorem mo_insert (l : List D) (i : Int) (x : D) : moF .insert (.lst true l) [.int i, x] = if l.length < lim ∧ 0 ≤ i ∧ i < 2 ^ 63 then some (.lst true (l.take i.toNat ++ x :: l.drop i.toNat), .non) else none := id rfl
@[simp] theorem mo_extend (l m : List D) : moF .extend (.lst true l) [.lst true m] = if l.length + m.length < lim then some (.lst true (l ++ m), .non) else none := id rfl
@[simp] theorem mo_clearL (l : List D) : moF .clearL (.lst true l) [] = some (.lst true [], .non) := id rfl
@[simp] theorem mo_setIL (l : List D) (i : Int) (x : D) : moF .setI (.lst true l) [.int i, x] = (ixN l.length i).map fun k => (.lst true (l.set k x), .non) := id rfl
@[simp] theorem mo_setF (f : Str) (n : Nat) (fs : List Str) (l : List D) (x : D) : moF (.setF f) (.ins true ⟨#[n]⟩ fs l) [x] = if fs.length < 1000 then match fs.findIdx? fun g => decide (g = f) with
    | some i => some (.ins true ⟨#[n]⟩ fs (l.set i x), .non)
    | none => some (.ins true ⟨#[n]⟩ (fs ++ [f]) (l ++ [x]), .non)
    else none := by
  show (if fs.length < 1000 ∧ isX ⟨#[n]⟩ = false then _ else _) = _
  by_cases h : fs.length < 1000
  · rw [if_pos ⟨h, isX_1 n⟩, if_pos h]
    all_goals (rcases fs.findIdx? (fun g => decide (g = f)) with _ | _ <;> rfl)
  · rw [if_neg fun z => h z.1, if_neg h]
@[simp] theorem rs_whl (t : T) (b : S) : runS P mf n (.whl t b) α = whGo (evT P t) (runS P mf n b) n α := by simp only [runS]
/-- loops by an invariant: i turns are done -/
theorem forGo_inv {f : D → Env → RS} (I : Nat → Env → Prop) (items : List D) {α : Env} (h0 : I 0 α) (step : ∀ i d α, items[i]? = some d → I i α → ∃ α', (f d α = .nx α' ∨ f d α = .ct α') ∧ I (i + 1) α') :
    ∃ α', forGo f items α = .nx α' ∧ I items.length α' := by
  induction items generalizing α I with
  | nil => exact ⟨α, rfl, h0⟩
  | cons d r ih =>
    obtain ⟨α1, h1, I1⟩ := step 0 d α rfl h0
    obtain ⟨α2, h2, I2⟩ := ih (fun i => I (i + 1)) I1 fun i d α hi => step (i + 1) d α (by simpa using hi)
    refine ⟨α2, ?_, by simpa using I2⟩
    rcases h1 with h1 | h1 <;> (unfold forGo; rw [h1]; exact h2)
/-- the same, of what each turn does when it goes on; or it leaves -/
theorem forGo_inv2 {f : D → Env → RS} (I : Nat → Env → Prop) (Z : RS → Prop) (items : List D) {α : Env} (h0 : I 0 α) (step : ∀ i d α, items[i]? = some d → I i α → (∃ α', (f d α = .nx α' ∨ f d α = .ct α') ∧ I (i + 1) α') ∨ (∃ α', f d α = .brk α' ∧ Z (.nx α')) ∨ ((∃ x α', f d α = .ret x α' ∨ f d α = .exc x α') ∧ Z (f d α)))
    (hl : ∀ α', I items.length α' → Z (.nx α')) : Z (forGo f items α) := by
  induction items generalizing α I with
  | nil => exact hl α h0
  | cons d r ih =>
    rcases step 0 d α rfl h0 with ⟨α1, h1, I1⟩ | ⟨α1, h1, z⟩ | ⟨⟨x, α1, h1⟩, z⟩
    · have q := ih (fun i => I (i + 1)) I1 (fun i d α hi => step (i + 1) d α (by simpa using hi)) (fun α' h => hl α' (by simpa using h))
      rcases h1 with h1 | h1 <;> (unfold forGo; rw [h1]; exact q)
    · unfold forGo; rw [h1]; exact z
    · rcases h1 with h1 | h1 <;> (unfold forGo; rw [h1] at z ⊢; exact z)
theorem forGo_nil (f : D → Env → RS) : forGo f [] α = .nx α := rfl
theorem lcGo_map {f : D → R1 (Option D)} {g : D → D} : ∀ (l acc : List D), (∀ d ∈ l, f d = .ok (some (g d))) → lcGo f l acc = .ok (.lst true (acc ++ l.map g))
  | [], acc, _ => by simp [lcGo]
  | d :: r, acc, h => by
    unfold lcGo
    rw [h d List.mem_cons_self]
    show lcGo f r (acc ++ [g d]) = _
    rw [lcGo_map r _ fun x hx => h x (List.mem_cons_of_mem _ hx)]
    simp
theorem lcGo_filter {f : D → R1 (Option D)} {p : D → Bool} {g : D → D} : ∀ (l acc : List D), (∀ d ∈ l, f d = .ok (if p d = true then some (g d) else none)) → lcGo f l acc = .ok (.lst true (acc ++ (l.filter p).map g))
  | [], acc, _ => by simp [lcGo]
  | d :: r, acc, h => by
    unfold lcGo
    rw [h d List.mem_cons_self]
    by_cases hp : p d = true
    · rw [if_pos hp, List.filter_cons_of_pos hp]
      show lcGo f r (acc ++ [g d]) = _
      rw [lcGo_filter r _ fun x hx => h x (List.mem_cons_of_mem _ hx)]
      simp
    · rw [if_neg hp, List.filter_cons_of_neg hp]
      show lcGo f r acc = _
      exact lcGo_filter r _ fun x hx => h x (List.mem_cons_of_mem _ hx)
theorem whGo_step (t : Env → RE Bool) (f : Env → RS) (n : Nat) (α : Env) : whGo t f (n + 1) α = (t α).on fun k α => if k = true then match f α with
    | .nx α' => whGo t f n α'
    | .ct α' => whGo t f n α'
    | .brk α' => .nx α'
    | o => o
    else .nx α := rfl
/-- a while, by an invariant and what goes down; Z: of its end -/
theorem whGo_inv {t : Env → RE Bool} {f : Env → RS} (I : Nat → Env → Prop) (Z : RS → Prop) (n m : Nat) (hm : m < n) {α : Env} (h0 : I m α)
    (step : ∀ m α, I m α → ∃ k β, t α = .ok k β ∧ if k = true then (∃ α' m', (f β = .nx α' ∨ f β = .ct α') ∧ m' < m ∧ I m' α') ∨ (∃ α', f β = .brk α' ∧ Z (.nx α')) ∨ ((∃ x α', f β = .ret x α' ∨ f β = .exc x α') ∧ Z (f β)) else Z (.nx β)) : Z (whGo t f n α) := by
  induction n generalizing α m with
  | zero => omega
  | succ n ih =>
    obtain ⟨k, β, ht, h⟩ := step m α h0
    rw [whGo_step, ht]
    simp only [RE.on_ok]
    cases k with
    | false => simpa using h
    | true =>
      simp only [if_true] at h ⊢
      rcases h with ⟨α', m', h1, h2, h3⟩ | ⟨α', h1, z⟩ | ⟨⟨x, α', h1⟩, z⟩
      · have q := ih m' (by omega) h3
        rcases h1 with h1 | h1 <;> (rw [h1]; exact q)
      · rw [h1]; exact z
      · rcases h1 with h1 | h1 <;> (rw [h1] at z ⊢; exact z)
def endF (pins : List Nat) (np : Nat) : RS → RF
  | .nx α => .ok .non (fins pins 0 α np)
  | .ret d α => .ok d (fins pins 0 α np)
  | .exc x α => .exc x (fins pins 0 α np)
  | _ => .bad
@[simp] theorem endF_nx (pins : List Nat) (np : Nat) : endF pins np (.nx α) = .ok .non (fins pins 0 α np) := id rfl
@[simp] theorem endF_ret (pins : List Nat) (np : Nat) (d : D) : endF pins np (.ret d α) = .ok d (fins pins 0 α np) := id rfl
@[simp] theorem endF_exc (pins : List Nat) (np : Nat) (d : D) : endF pins np (.exc d α) = .exc d (fins pins 0 α np) := id rfl
@[simp] theorem fins_z (pins : List Nat) (i : Nat) : fins pins i α 0 = [] := by cases α <;> simp only [fins]
@[simp] theorem fins_s (pins : List Nat) (i k : Nat) (o : Option D) : fins pins i (o :: α) (k + 1) = (if pins.contains i = true then o else none) :: fins pins (i + 1) α k := by simp only [fins]
@[simp] theorem asgR_tupP (ps : List Pat) (d : D) : asgR (.tup ps) d α = match asgP (.tup ps) d α with
  | some α' => .nx α'
  | none => .bad := id rfl
/-! places -/
@[simp] theorem asgR_one (i : Nat) (d : D) : asgR (.one i) d α = if i < α.length then .nx (α.set i (some d)) else .bad := by
  unfold asgR
  simp only [asgP]
  split <;> split <;> simp_all
@[simp] theorem asgP_one (i : Nat) (d : D) : asgP (.one i) d α = if i < α.length then some (α.set i (some d)) else none := by simp only [asgP]
@[simp] theorem asgP_tupT (ps : List Pat) (l : List D) : asgP (.tup ps) (.tup l) α = asgPs ps l α := by simp only [asgP]
@[simp] theorem asgP_tupL (ps : List Pat) (m : Bool) (l : List D) : asgP (.tup ps) (.lst m l) α = asgPs ps l α := by simp only [asgP]
@[simp] theorem asgPs_nil : asgPs [] [] α = some α := by simp only [asgPs]
@[simp] theorem asgPs_cons (p : Pat) (ps : List Pat) (d : D) (ds : List D) : asgPs (p :: ps) (d :: ds) α = (asgP p d α).bind (asgPs ps ds) := by simp only [asgPs]
theorem asgR_tup (ps : List Pat) (d : D) : asgR (.tup ps) d α = match asgP (.tup ps) d α with
  | some α' => .nx α'
  | none => .bad := id rfl
/-! data -/
@[simp] theorem fz_non : D.fz .non = true := by simp only [D.fz]
@[simp] theorem fz_bl (b : Bool) : D.fz (.bl b) = true := by simp only [D.fz]
@[simp] theorem fz_int (b : Int) : D.fz (.int b) = true := by simp only [D.fz]
@[simp] theorem fz_str (b : Str) : D.fz (.str b) = true := by simp only [D.fz]
@[simp] theorem fz_tup (l : List D) : D.fz (.tup l) = D.fzL l := by simp only [D.fz]
@[simp] theorem fz_lst (m : Bool) (l : List D) : D.fz (.lst m l) = (!m && D.fzL l) := by simp only [D.fz]
@[simp] theorem fz_dct (m : Bool) (ks : List Key) (l : List D) : D.fz (.dct m ks l) = (!m && D.fzL l) := by simp only [D.fz]
@[simp] theorem fz_ins (m : Bool) (c : Str) (ks : List Str) (l : List D) : D.fz (.ins m c ks l) = (!m && D.fzL l) := by simp only [D.fz]
@[simp] theorem fz_exn (c : Str) (ks : List Str) (l : List D) : D.fz (.exn c ks l) = D.fzL l := by simp only [D.fz]
@[simp] theorem fzL_nil : D.fzL [] = true := by simp only [D.fzL]
@[simp] theorem fzL_cons (d : D) (l : List D) : D.fzL (d :: l) = (D.fz d && D.fzL l) := by simp only [D.fzL]
@[simp] theorem cl_non : D.clean .non = true := by simp only [D.clean]
@[simp] theorem cl_bl (b : Bool) : D.clean (.bl b) = true := by simp only [D.clean]
@[simp] theorem cl_int (b : Int) : D.clean (.int b) = true := by simp only [D.clean]
@[simp] theorem cl_str (b : Str) : D.clean (.str b) = true := by simp only [D.clean]
@[simp] theorem cl_tup (l : List D) : D.clean (.tup l) = D.cleanL l := by simp only [D.clean]
@[simp] theorem cl_lst (m : Bool) (l : List D) : D.clean (.lst m l) = (m && D.cleanL l) := by simp only [D.clean]
@[simp] theorem cl_dct (m : Bool) (ks : List Key) (l : List D) : D.clean (.dct m ks l) = (m && D.cleanL l) := by simp only [D.clean]
@[simp] theorem cl_ins (m : Bool) (c : Str) (ks : List Str) (l : List D) : D.clean (.ins m c ks l) = (m && D.cleanL l) := by simp only [D.clean]
@[simp] theorem cl_exn (c : Str) (ks : List Str) (l : List D) : D.clean (.exn c ks l) = false := by simp only [D.clean]
@[simp] theorem clL_nil : D.cleanL [] = true := by simp only [D.cleanL]
@[simp] theorem clL_cons (d : D) (l : List D) : D.cleanL (d :: l) = (D.clean d && D.cleanL l) := by simp only [D.cleanL]
@[simp] theorem fr_non : D.freeze .non = .non := id rfl
@[simp] theorem fr_bl (b : Bool) : D.freeze (.bl b) = .bl b := id rfl
@[simp] theorem fr_int (b : Int) : D.freeze (.int b) = .int b := id rfl
@[simp] theorem fr_str (b : Str) : D.freeze (.str b) = .str b := id rfl
@[simp] theorem fr_tup (l : List D) : D.freeze (.tup l) = .tup (D.freezeL l) := by simp only [D.freeze]
@[simp] theorem fr_lst (m : Bool) (l : List D) : D.freeze (.lst m l) = .lst false (D.freezeL l) := by simp only [D.freeze]
@[simp] theorem fr_dct (m : Bool) (ks : List Key) (l : List D) : D.freeze (.dct m ks l) = .dct false ks (D.freezeL l) := by simp only [D.freeze]
@[simp] theorem fr_ins (m : Bool) (c : Str) (ks : List Str) (l : List D) : D.freeze (.ins m c ks l) = .ins false c ks (D.freezeL l) := by simp only [D.freeze]
@[simp] theorem fr_exn (c : Str) (ks : List Str) (l : List D) : D.freeze (.exn c ks l) = .exn c ks (D.freezeL l) := by simp only [D.freeze]
@[simp] theorem frL_nil : D.freezeL [] = [] := id rfl
@[simp] theorem frL_cons (d : D) (l : List D) : D.freezeL (d :: l) = D.freeze d :: D.freezeL l := by simp only [D.freezeL]
@[simp] theorem cd_non : Cst.d .non = .non := id rfl
@[simp] theorem cd_bl (b : Bool) : Cst.d (.bl b) = .bl b := id rfl
@[simp] theorem cd_int (b : Int) : Cst.d (.int b) = .int b := id rfl
@[simp] theorem cd_str (b : Str) : Cst.d (.str b) = .str b := id rfl
theorem fzL_all : ∀ {l : List D}, (∀ d ∈ l, D.fz d = true) → D.fzL l = true
  | [], _ => rfl
  | d :: l, h => by rw [fzL_cons, h d List.mem_cons_self, fzL_all fun x hx => h x (List.mem_cons_of_mem _ hx)]; rfl
theorem clL_all : ∀ {l : List D}, (∀ d ∈ l, D.clean d = true) → D.cleanL l = true
  | [], _ => rfl
  | d :: l, h => by rw [clL_cons, h d List.mem_cons_self, clL_all fun x hx => h x (List.mem_cons_of_mem _ hx)]; rfl
theorem frL_map : ∀ (l : List D), D.freezeL l = l.map D.freeze
  | [] => rfl
  | d :: l => by rw [frL_cons, frL_map l]; rfl
@[simp] theorem fzL_ints (ns : List Int) : D.fzL (ns.map D.int) = true := fzL_all fun d h => by
  obtain ⟨i, _, rfl⟩ := List.mem_map.mp h
  rfl
@[simp] theorem clL_ints (ns : List Int) : D.cleanL (ns.map D.int) = true := clL_all fun d h => by
  obtain ⟨i, _, rfl⟩ := List.mem_map.mp h
  rfl
@[simp] theorem frL_ints (ns : List Int) : D.freezeL (ns.map D.int) = ns.map D.int := by
  rw [frL_map, List.map_map]
  exact List.map_congr_left fun i _ => rfl
@[simp] theorem fzL_app (a b : List D) : D.fzL (a ++ b) = (D.fzL a && D.fzL b) := by
  induction a with
  | nil => rfl
  | cons d a ih => rw [List.cons_append, fzL_cons, ih, fzL_cons, Bool.and_assoc]
mutual
theorem freeze_fz : ∀ {d : D}, D.fz d = true → D.freeze d = d
  | .non, _ | .bl _, _ | .int _, _ | .str _, _ => rfl
  | .tup l, h => by rw [fz_tup] at h; rw [fr_tup, freezeL_fz h]
  | .lst m l, h => by
    rw [fz_lst, Bool.and_eq_true] at h
    rw [fr_lst, freezeL_fz h.2]
    cases m
    · rfl
    · cases h.1
  | .dct m ks l, h => by
    rw [fz_dct, Bool.and_eq_true] at h
    rw [fr_dct, freezeL_fz h.2]
    cases m
    · rfl
    · cases h.1
  | .ins m c ks l, h => by
    rw [fz_ins, Bool.and_eq_true] at h
    rw [fr_ins, freezeL_fz h.2]
    cases m
    · rfl
    · cases h.1
  | .exn c ks l, h => by
    rw [fz_exn] at h
    rw [fr_exn, freezeL_fz h]
theorem freezeL_fz : ∀ {l : List D}, D.fzL l = true → D.freezeL l = l
  | [], _ => rfl
  | d :: l, h => by
    rw [fzL_cons, Bool.and_eq_true] at h
    rw [frL_cons, freeze_fz h.1, freezeL_fz h.2]
end
mutual
@[simp] theorem fz_freeze : ∀ (d : D), D.fz d.freeze = true
  | .non | .bl _ | .int _ | .str _ => rfl
  | .tup l => by rw [fr_tup, fz_tup, fz_freezeL l]
  | .lst m l => by rw [fr_lst, fz_lst, fz_freezeL l]; rfl
  | .dct m ks l => by rw [fr_dct, fz_dct, fz_freezeL l]; rfl
  | .ins m c ks l => by rw [fr_ins, fz_ins, fz_freezeL l]; rfl
  | .exn c ks l => by rw [fr_exn, fz_exn, fz_freezeL l]
@[simp] theorem fz_freezeL : ∀ (l : List D), D.fzL (D.freezeL l) = true
  | [] => rfl
  | d :: l => by rw [frL_cons, fzL_cons, fz_freeze d, fz_freezeL l]; rfl
end
@[simp] theorem freeze_fr (d : D) : D.freeze (D.freeze d) = D.freeze d := freeze_fz (fz_freeze d)
/-! operations on shapes -/
variable (sub : Str → Str → Option Bool)
@[simp] theorem of_add (a b : Int) : opF sub .add [.int a, .int b] = some (.int (a + b)) := id rfl
@[simp] theorem of_addL (m k : Bool) (a b : List D) : opF sub .add [.lst m a, .lst k b] = if a.length + b.length < lim then some (.lst true (a ++ b)) else none := id rfl
@[simp] theorem of_addT (a b : List D) : opF sub .add [.tup a, .tup b] = if a.length + b.length < lim then some (.tup (a ++ b)) else none := id rfl
@[simp] theorem of_addS (a b : Str) : opF sub .add [.str a, .str b] = if a.length + b.length < lim then some (.str (a ++ b)) else none := id rfl
@[simp] theorem of_sub (a b : Int) : opF sub .sub [.int a, .int b] = some (.int (a - b)) := id rfl
@[simp] theorem of_mul (a b : Int) : opF sub .mul [.int a, .int b] = if mulOk a b = true then some (.int (a * b)) else none := id rfl
@[simp] theorem of_rep (l : List D) (k : Int) : opF sub .mul [.lst true l, .int k] = if (repOk l.length k && D.fzL l) = true then some (.lst true (List.replicate k.toNat l).flatten) else none := id rfl
@[simp] theorem of_mod (a b : Int) : opF sub .mod [.int a, .int b] = if 0 < b then some (.int (a % b)) else none := id rfl
@[simp] theorem of_div (a b : Int) : opF sub .fdiv [.int a, .int b] = if divOk b = true then some (.int (a / b)) else none := id rfl
@[simp] theorem of_pow (a b : Int) : opF sub .pow [.int a, .int b] = if powOk a b = true then some (.int (a ^ b.toNat)) else none := id rfl
@[simp] theorem of_shl (a b : Int) : opF sub .shl [.int a, .int b] = if powOk a b = true then some (.int (a * 2 ^ b.toNat)) else none := id rfl
@[simp] theorem of_shr (a b : Int) : opF sub .shr [.int a, .int b] = if 0 ≤ b then some (.int (a / 2 ^ b.toNat)) else none := id rfl
@[simp] theorem of_band (a b : Int) : opF sub .band [.int a, .int b] = some (.int (Builtin.bitAnd a b)) := id rfl
@[simp] theorem of_neg (a : Int) : opF sub .neg [.int a] = some (.int (-a)) := id rfl
@[simp] theorem of_lt (a b : Int) : opF sub .lt [.int a, .int b] = some (.bl (decide (a < b))) := id rfl
@[simp] theorem of_le (a b : Int) : opF sub .le [.int a, .int b] = some (.bl (decide (a ≤ b))) := id rfl
@[simp] theorem of_gt (a b : Int) : opF sub .gt [.int a, .int b] = some (.bl (decide (b < a))) := id rfl
@[simp] theorem of_ge (a b : Int) : opF sub .ge [.int a, .int b] = some (.bl (decide (b ≤ a))) := id rfl
@[simp] theorem of_isN (d : D) : opF sub .isNon [d] = some (.bl d.isNon) := by show some (D.bl (d.isNon != false)) = _; rw [Bool.bne_false]
@[simp] theorem of_notN (d : D) : opF sub .notNon [d] = some (.bl (!d.isNon)) := by show some (D.bl (d.isNon != true)) = _; rw [Bool.bne_true]
@[simp] theorem isNon_non : D.isNon .non = true := id rfl
@[simp] theorem isNon_int (i : Int) : D.isNon (.int i) = false := id rfl
@[simp] theorem isNon_str (i : Str) : D.isNon (.str i) = false := id rfl
@[simp] theorem isNon_bl (i : Bool) : D.isNon (.bl i) = false := id rfl
@[simp] theorem isNon_tup (i : List D) : D.isNon (.tup i) = false := id rfl
@[simp] theorem isNon_lst (m : Bool) (i : List D) : D.isNon (.lst m i) = false := id rfl
@[simp] theorem isNon_ins (m : Bool) (c : Str) (f : List Str) (i : List D) : D.isNon (.ins m c f i) = false := id rfl
@[simp] theorem of_isB (a b : Bool) : opF sub .isB [.bl a, .bl b] = some (.bl (a == b)) := by show some (D.bl ((a == b) != false)) = _; rw [Bool.bne_false]
@[simp] theorem of_notB (a b : Bool) : opF sub .notB [.bl a, .bl b] = some (.bl (!(a == b))) := by show some (D.bl ((a == b) != true)) = _; rw [Bool.bne_true]
@[simp] theorem of_eqI (a b : Int) : opF sub .eq [.int a, .int b] = some (.bl (a == b)) := by show some (D.bl ((a == b) != false)) = _; rw [Bool.bne_false]
@[simp] theorem of_neI (a b : Int) : opF sub .ne [.int a, .int b] = some (.bl (!(a == b))) := by show some (D.bl ((a == b) != true)) = _; rw [Bool.bne_true]
@[simp] theorem of_eqS (a b : Str) : opF sub .eq [.str a, .str b] = some (.bl (a == b)) := by show some (D.bl ((a == b) != false)) = _; rw [Bool.bne_false]
@[simp] theorem of_neS (a b : Str) : opF sub .ne [.str a, .str b] = some (.bl (!(a == b))) := by show some (D.bl ((a == b) != true)) = _; rw [Bool.bne_true]
@[simp] theorem of_eqB (a b : Bool) : opF sub .eq [.bl a, .bl b] = some (.bl (a == b)) := by show some (D.bl ((a == b) != false)) = _; rw [Bool.bne_false]
@[simp] theorem of_neB (a b : Bool) : opF sub .ne [.bl a, .bl b] = some (.bl (!(a == b))) := by show some (D.bl ((a == b) != true)) = _; rw [Bool.bne_true]
/-- equal plain things -/
theorem of_eqP {a b : D} (h : D.scal2 a b = true ∨ (D.pl 9 a && D.pl 9 b) = true) : opF sub .eq [a, b] = some (.bl (D.eqb a b)) := by
  show (if D.scal2 a b = true then some (D.bl (D.eqb a b != false)) else if (D.pl 9 a && D.pl 9 b) = true then some (D.bl (D.eqb a b != false)) else if (!false && D.eqd 20 a b) = true then some (.bl true) else if (false && D.eqf a b) = true then some (.bl false) else none) = _
  rw [Bool.bne_false]
  rcases h with h | h
  · rw [if_pos h]
  · rw [if_pos h]; split <;> rfl
theorem of_neP {a b : D} (h : D.scal2 a b = true ∨ (D.pl 9 a && D.pl 9 b) = true) : opF sub .ne [a, b] = some (.bl (!D.eqb a b)) := by
  show (if D.scal2 a b = true then some (D.bl (D.eqb a b != true)) else if (D.pl 9 a && D.pl 9 b) = true then some (D.bl (D.eqb a b != true)) else if (!true && D.eqd 20 a b) = true then some (.bl true) else if (true && D.eqf a b) = true then some (.bl false) else none) = _
  rw [Bool.bne_true]
  rcases h with h | h
  · rw [if_pos h]
  · rw [if_pos h]; split <;> rfl
theorem of_ixL (m : Bool) (l : List D) (i : Int) : opF sub .ix [.lst m l, .int i] = (ixN l.length i).bind fun k => l[k]? := id rfl
theorem of_ixT (l : List D) (i : Int) : opF sub .ix [.tup l, .int i] = (ixN l.length i).bind fun k => l[k]? := id rfl
def fldAt (f : Str) : List Str → List D → Option D
  | g :: fs, x :: l => if g = f then some x else fldAt f fs l
  | _, _ => none
@[simp] theorem fldAt_cons (f g : Str) (fs : List Str) (x : D) (l : List D) : fldAt f (g :: fs) (x :: l) = if g = f then some x else fldAt f fs l := by simp only [fldAt]
theorem fldAt_eq (f : Str) : ∀ (fs : List Str) (l : List D), ((fs.findIdx? fun g => decide (g = f)).bind fun k => l[k]?) = fldAt f fs l
  | [], l => by simp [fldAt]
  | g :: fs, [] => by simp [fldAt]
  | g :: fs, x :: l => by
    rw [List.findIdx?_cons, fldAt_cons]
    by_cases h : g = f
    · simp [h]
    · rw [if_neg h, ← fldAt_eq f fs l]
      simp [h]
      cases fs.findIdx? (fun g => decide (g = f)) <;> simp
@[simp] theorem of_fld (f : Str) (m : Bool) (n : Nat) (fs : List Str) (l : List D) : opF sub (.fld f) [.ins m ⟨#[n]⟩ fs l] = fldAt f fs l := by
  show (if isX ⟨#[n]⟩ = true then none else _) = _
  rw [if_neg (by rw [isX_1]; decide)]
  exact fldAt_eq f fs l
@[simp] theorem of_fldX (f : Str) (n k : Nat) (fs : List Str) (l : List D) : opF sub (.fld f) [.exn ⟨#[n, k]⟩ fs l] = fldAt f fs l := by
  show (if isX ⟨#[n, k]⟩ = true then _ else none) = _
  rw [if_pos (isX_2 n k)]
  exact fldAt_eq f fs l
@[simp] theorem of_lenL (m : Bool) (l : List D) : opF sub .len [.lst m l] = some (.int l.length) := id rfl
@[simp] theorem of_lenT (l : List D) : opF sub .len [.tup l] = some (.int l.length) := id rfl
@[simp] theorem of_lenS (z : Str) : opF sub .len [.str z] = if z.length < lim then some (.int z.length) else none := id rfl
@[simp] theorem of_lenD (m : Bool) (ks : List Key) (l : List D) : opF sub .len [.dct m ks l] = some (.int ks.length) := by cases m <;> rfl
@[simp] theorem of_int (i : Int) : opF sub .int_ [.int i] = some (.int i) := id rfl
@[simp] theorem of_intB (k : Bool) : opF sub .int_ [.bl k] = some (.int (if k then 1 else 0)) := id rfl
@[simp] theorem of_abs (i : Int) : opF sub .abs [.int i] = some (.int (if i < 0 then -i else i)) := id rfl
@[simp] theorem of_max2 (i j : Int) : opF sub .max2 [.int i, .int j] = some (.int (if j > i then j else i)) := id rfl
@[simp] theorem of_min2 (i j : Int) : opF sub .min2 [.int i, .int j] = some (.int (if j < i then j else i)) := id rfl
@[simp] theorem of_sum (m : Bool) (l : List D) : opF sub .sum [.lst m l] = (D.ints l).map fun ns => .int ns.sum := id rfl
@[simp] theorem of_all (m : Bool) (l : List D) : opF sub .all [.lst m l] = (D.bls l).map fun ns => .bl (ns.all id) := id rfl
@[simp] theorem of_any (m : Bool) (l : List D) : opF sub .any [.lst m l] = (D.bls l).map fun ns => .bl (ns.any id) := id rfl
@[simp] theorem of_listL (m : Bool) (l : List D) : opF sub .list_ [.lst m l] = some (.lst true l) := id rfl
@[simp] theorem of_listT (l : List D) : opF sub .list_ [.tup l] = some (.lst true l) := id rfl
@[simp] theorem of_rev (m : Bool) (l : List D) : opF sub .rev [.lst m l] = if D.fzL l = true then some (.lst true l.reverse) else none := id rfl
@[simp] theorem of_lenset (m : Bool) (l : List D) : opF sub .lenset [.lst m l] = (D.ints l).bind fun ns => if ns.length < 63 then some (.int (setLen ns : Nat)) else none := id rfl
@[simp] theorem of_rngL1 (b : Int) : opF sub .rngL1 [.int b] = if rgLOk 0 b = true then some (.lst true (rgD 0 b)) else none := id rfl
@[simp] theorem of_rngL2 (a b : Int) : opF sub .rngL2 [.int a, .int b] = if rgLOk a b = true then some (.lst true (rgD a b)) else none := id rfl
@[simp] theorem tyD_l (m : Bool) (l : List D) : tyD .list (.lst m l) = true := id rfl
@[simp] theorem tyD_d (m : Bool) (ks : List Key) (l : List D) : tyD .dict (.dct m ks l) = true := id rfl
@[simp] theorem tyD_s (x : Str) : tyD .str (.str x) = true := id rfl
@[simp] theorem of_dnew : opF sub .dnew [] = some (.dct true [] []) := id rfl
@[simp] theorem of_isC (c : Str) (n : Nat) (m : Bool) (fs : List Str) (l : List D) : opF sub (.isC [c]) [.ins m ⟨#[n]⟩ fs l] = (sub ⟨#[n]⟩ c).map D.bl := id rfl
@[simp] theorem of_isCX (c : Str) (n k : Nat) (fs : List Str) (l : List D) : opF sub (.isC [c]) [.exn ⟨#[n, k]⟩ fs l] = (sub ⟨#[n, k]⟩ c).map D.bl := id rfl
@[simp] theorem of_sl01 (d : D) (j : Int) : opF sub (.sl false true) [d, .int j] = fSlx none (some j) d := id rfl
@[simp] theorem of_sl11 (d : D) (i j : Int) : opF sub (.sl true true) [d, .int i, .int j] = fSlx (some i) (some j) d := id rfl
@[simp] theorem of_sl10 (d : D) (i : Int) : opF sub (.sl true false) [d, .int i] = fSlx (some i) none d := id rfl
@[simp] theorem of_sl00 (d : D) : opF sub (.sl false false) [d] = fSlx none none d := id rfl
@[simp] theorem slx_lst (lo hi : Option Int) (m : Bool) (l : List D) : fSlx lo hi (.lst m l) = some (.lst true (cutL l lo hi)) := id rfl
@[simp] theorem slx_tup (lo hi : Option Int) (l : List D) : fSlx lo hi (.tup l) = some (.tup (cutL l lo hi)) := id rfl
@[simp] theorem slx_str (lo hi : Option Int) (z : Str) : fSlx lo hi (.str z) = if z.length < lim then some (.str (cutS z lo hi)) else none := id rfl
@[simp] theorem it_lst (m : Bool) (l : List D) : itF .lst [.lst m l] = some l := id rfl
@[simp] theorem it_tup (l : List D) : itF .lst [.tup l] = some l := id rfl
@[simp] theorem it_enum (m : Bool) (l : List D) : itF .enum [.lst m l] = some (l.zipIdx.map fun p => D.tup [.int (p.2 : Nat), p.1]) := id rfl
@[simp] theorem it_zip (m k : Bool) (l r : List D) : itF .zip [.lst m l, .lst k r] = some ((l.zip r).map fun p => D.tup [p.1, p.2]) := id rfl
@[simp] theorem it_rng1 (j : Int) : itF .rng1 [.int j] = if rngOk 0 j = true then some (rng 0 1 j.toNat) else none := id rfl
@[simp] theorem it_rng2 (i j : Int) : itF .rng2 [.int i, .int j] = if rngOk i j = true then some (rng i 1 (j - i).toNat) else none := id rfl
@[simp] theorem it_rng3 (i j c : Int) : itF .rng3 [.int i, .int j, .int c] = if rngOk i j = true ∧ c = -1 then some (rng i (-1) (i - j).toNat) else none := id rfl
@[simp] theorem it_keys (m : Bool) (ks : List Key) (l : List D) : itF .keys [.dct m ks l] = some (ks.map keyD) := id rfl
@[simp] theorem it_vals (m : Bool) (ks : List Key) (l : List D) : itF .vals [.dct m ks l] = if ks.length = l.length then some l else none := id rfl
@[simp] theorem it_items (m : Bool) (ks : List Key) (l : List D) : itF .items [.dct m ks l] = if ks.length = l.length then some ((ks.zip l).map fun p => D.tup [keyD p.1, p.2]) else none := id rfl
@[simp] theorem it_revL (m : Bool) (l : List D) : itF .revL [.lst m l] = some l.reverse := id rfl
@[simp] theorem ints_map (ns : List Int) : D.ints (ns.map D.int) = some ns := by
  induction ns with
  | nil => rfl
  | cons i ns ih => rw [List.map_cons]; unfold D.ints; rw [ih]; rfl
@[simp] theorem of_sorted (m : Bool) (ns : List Int) : opF sub .sorted [.lst m (ns.map D.int)] = some (.lst true ((sortI ns).map D.int)) := by
  show fSorted [.lst m (ns.map D.int)] = _
  unfold fSorted
  simp only [ints_map]
theorem strs_map (ns : List Str) : D.strs (ns.map D.str) = some ns := by
  induction ns with
  | nil => rfl
  | cons i ns ih => rw [List.map_cons]; unfold D.strs; rw [ih]; rfl
theorem of_sortedS (m : Bool) (ss : List Str) (h : ss.length < 64) : opF sub .sorted [.lst m (ss.map D.str)] = some (.lst true ((sortStr ss).map D.str)) := by
  show fSorted [.lst m (ss.map D.str)] = _
  unfold fSorted
  cases ss with
  | nil => rfl
  | cons s ss =>
    have hn : D.ints ((s :: ss).map D.str) = none := by rw [List.map_cons]; unfold D.ints; rfl
    simp only [hn, strs_map, Option.bind_some]
    rw [if_pos h]
theorem of_sortedDS (m : Bool) (ss : List Str) (l : List D) (h : ss.length < 64) : opF sub .sorted [.dct m (ss.map Sum.inr) l] = some (.lst true ((sortStr ss).map D.str)) := by
  have e : strKs (ss.map Sum.inr) = some ss := by
    clear h
    induction ss with
    | nil => rfl
    | cons i ns ih => rw [List.map_cons]; unfold strKs; rw [ih]; rfl
  show (match strKs (ss.map Sum.inr) with
    | some ss => if ss.length < 64 then some (D.lst true ((sortStr ss).map D.str)) else none
    | none => (intKs (ss.map Sum.inr)).bind fun ns => if ns.length < 64 then some (D.lst true ((sortI ns).map D.int)) else none) = _
  rw [e]
  simp only
  rw [if_pos h]
theorem of_sortedDI (m : Bool) (ns : List Int) (l : List D) (h : ns.length < 64) : opF sub .sorted [.dct m (ns.map Sum.inl) l] = some (.lst true ((sortI ns).map D.int)) := by
  have e : intKs (ns.map Sum.inl) = some ns := by
    clear h
    induction ns with
    | nil => rfl
    | cons i ns ih => rw [List.map_cons]; unfold intKs; rw [ih]; rfl
  show (match strKs (ns.map Sum.inl) with
    | some ss => if ss.length < 64 then some (D.lst true ((sortStr ss).map D.str)) else none
    | none => (intKs (ns.map Sum.inl)).bind fun ns => if ns.length < 64 then some (D.lst true ((sortI ns).map D.int)) else none) = _
  rw [e]
  cases ns with
  | nil => rfl
  | cons i ns =>
    have es : strKs ((i :: ns).map Sum.inl) = none := by rw [List.map_cons]; unfold strKs; rfl
    rw [es]
    simp only [Option.bind_some]
    rw [if_pos h]
@[simp] theorem bls_map (ns : List Bool) : D.bls (ns.map D.bl) = some ns := by
  induction ns with
  | nil => rfl
  | cons i ns ih => rw [List.map_cons]; unfold D.bls; rw [ih]; rfl
/-! side conditions -/
theorem mulOk_r {i j : Int} (h : j.natAbs < 18446744073709551616) : mulOk i j = true := by unfold mulOk; rw [Bool.or_eq_true]; exact .inr (decide_eq_true h)
theorem mulOk_l {i j : Int} (h : i.natAbs < 18446744073709551616) : mulOk i j = true := by unfold mulOk; rw [Bool.or_eq_true]; exact .inl (decide_eq_true h)
theorem mulOk_lt {i j : Int} (h : (-18446744073709551616 < i ∧ i < 18446744073709551616) ∨ (-18446744073709551616 < j ∧ j < 18446744073709551616)) : mulOk i j = true := by
  rcases h with h | h
  · exact mulOk_l (by omega)
  · exact mulOk_r (by omega)
theorem ixN_of {n k : Nat} {i : Int} (h : i = (k : Int)) (hk : k < n) : ixN n i = some k := by
  subst h
  unfold ixN
  rw [if_pos (by omega), if_pos (by omega), Int.toNat_natCast]
theorem ixN_ok {n : Nat} {i : Int} (h0 : 0 ≤ i) (h : i < n) : ixN n i = some i.toNat := by
  unfold ixN
  rw [if_pos h0, if_pos h]
theorem ixN_neg {n : Nat} {i : Int} (h0 : i < 0) (h : -(n : Int) ≤ i) : ixN n i = some (i + n).toNat := by
  unfold ixN
  rw [if_neg (by omega), if_pos h]
theorem cut01 {α : Type} (l : List α) (j : Nat) : cutL l none (some (j : Int)) = l.take j := by
  unfold cutL
  rw [HT.sIx_nat, HT.sIx_none, List.drop_zero, Nat.sub_zero, List.take_eq_take_iff]
  omega
theorem cut10 {α : Type} (l : List α) (i : Nat) : cutL l (some (i : Int)) none = l.drop i := by
  unfold cutL
  rw [HT.sIx_nat, HT.sIx_none]
  by_cases h : i ≤ l.length
  · rw [Nat.min_eq_left h, List.take_of_length_le (by simp)]
  · rw [Nat.min_eq_right (by omega), Nat.sub_self, List.take_zero, List.drop_of_length_le (by omega)]
theorem cut11 {α : Type} (l : List α) (i j : Nat) : cutL l (some (i : Int)) (some (j : Int)) = (l.drop i).take (j - i) := by
  unfold cutL
  rw [HT.sIx_nat, HT.sIx_nat]
  by_cases hi : i ≤ l.length
  · rw [Nat.min_eq_left hi, List.take_eq_take_iff]
    simp
    omega
  · have e1 : l.drop l.length = [] := by simp
    have e2 : l.drop i = [] := List.drop_of_length_le (by omega)
    rw [Nat.min_eq_right (show l.length ≤ i by omega), e1, e2]
    simp
theorem charNat_inj {c d : Char} (h : c.toNat = d.toNat) : c = d := by
  apply Char.ext
  apply UInt32.toNat_inj.mp
  exact h
theorem mapNat_inj : ∀ {a b : List Char}, a.map Char.toNat = b.map Char.toNat → a = b
  | [], [], _ => rfl
  | [], _ :: _, h => by simp at h
  | _ :: _, [], h => by simp at h
  | c :: a, d :: b, h => by
    rw [List.map_cons, List.map_cons, List.cons.injEq] at h
    rw [charNat_inj h.1, mapNat_inj h.2]
@[simp] theorem ofS_eq (a b : String) : (Str.ofString a = Str.ofString b) = (a = b) := by
  refine propext ⟨fun h => ?_, fun h => by rw [h]⟩
  rw [Str.ofString_eq_toList, Str.ofString_eq_toList] at h
  have h1 : (a.toList.map Char.toNat).toArray = (b.toList.map Char.toNat).toArray := congrArg Str.cps h
  have h2 : a.toList.map Char.toNat = b.toList.map Char.toNat := by simpa using h1
  exact String.toList_inj.mp (mapNat_inj h2)
@[simp] theorem ofS_beq (a b : String) : (Str.ofString a == Str.ofString b) = (a == b) := by
  rw [Bool.eq_iff_iff, beq_iff_eq, ofS_eq, beq_iff_eq]
end LD
namespace LD
open PySem PySem.Spec PyProof.Rows L2

/-! ### texts -/
def sOk (x : Str) : Bool := x.cps.all (· < 0x110000)
@[simp] theorem sOk_ofS (s : String) : sOk (Str.ofString s) = true := by
  unfold sOk
  rw [Str.ofString_eq_toList]
  simp only [Array.all_eq_true, decide_eq_true_eq, List.getElem_toArray, List.getElem_map]
  intro i hi
  have : ∀ c : Char, c.toNat < 1114112 := fun c => by
    have h : c.val.toNat < 55296 ∨ (57343 < c.val.toNat ∧ c.val.toNat < 1114112) := c.valid
    show c.val.toNat < 1114112
    omega
  exact this _
theorem sOk_iff {x : Str} : sOk x = true ↔ ∀ c ∈ x.cps.toList, c < 1114112 := by
  unfold sOk
  rw [← Array.all_toList, List.all_eq_true]
  simp
@[simp] theorem sOk_app (a b : Str) : sOk (a ++ b) = (sOk a && sOk b) := by
  rw [Bool.eq_iff_iff, Bool.and_eq_true, sOk_iff, sOk_iff, sOk_iff]
  show (∀ c ∈ (a.cps ++ b.cps).toList, _) ↔ _
  simp [or_imp, forall_and]
@[simp] theorem len_app (a b : Str) : (a ++ b).length = a.length + b.length := Str.length_append a b
theorem sOk_join {a : Str} (ha : sOk a = true) : ∀ {ys : List Str}, (∀ y ∈ ys, sOk y = true) → sOk (Txt.join a ys) = true := by
  intro ys
  rw [TL.join_eq]
  induction ys with
  | nil => intro _; exact sOk_iff.mpr fun c h => by cases h
  | cons y r ih =>
    intro h
    cases r with
    | nil => exact h y List.mem_cons_self
    | cons z r =>
      show sOk (y ++ a ++ Str.join a (z :: r)) = true
      rw [sOk_app, sOk_app, h y List.mem_cons_self, ha, ih fun q m => h q (List.mem_cons_of_mem _ m)]
      rfl
theorem len_join (a : Str) (ys : List Str) : (Txt.join a ys).length ≤ (ys.map (·.length)).sum + ys.length * a.length := by
  rw [TL.join_eq]
  exact StrLaws.join_length_le a ys
theorem sOk_one {c : Nat} (h : c < 1114112) : sOk ⟨#[c]⟩ = true := sOk_iff.mpr fun d m => by
  have : d = c := by simpa using m
  omega
@[simp] theorem len_one (c : Nat) : Str.length ⟨#[c]⟩ = 1 := id rfl
theorem digits_le (b : Nat) (hb : 1 < b) : ∀ (fuel n k : Nat) (ds : List Char), n < b ^ (k + 1) → (Nat.toDigitsCore b fuel n ds).length ≤ k + 1 + ds.length
  | 0, n, k, ds, _ => by simp [Nat.toDigitsCore]
  | fuel + 1, n, k, ds, h => by
    unfold Nat.toDigitsCore
    simp only
    split
    · simp; omega
    · rename_i hn
      cases k with
      | zero =>
        have : n / b = 0 := Nat.div_eq_of_lt (by simpa using h)
        exact absurd this hn
      | succ k =>
        have h2 : n / b < b ^ (k + 1) := by
          rw [Nat.div_lt_iff_lt_mul (by omega)]
          rw [Nat.pow_succ] at h
          exact h
        have := digits_le b hb fuel (n / b) k (Nat.digitChar (n % b) :: ds) h2
        simp at this ⊢
        omega
theorem repr_le {n k : Nat} (h : n < 10 ^ (k + 1)) : (Nat.repr n).length ≤ k + 1 := by
  have := digits_le 10 (by omega) (n + 1) n k [] h
  simpa [Nat.repr, Nat.toDigits] using this
theorem len_int {i : Int} {k : Nat} (h : i.natAbs < 10 ^ (k + 1)) : (Str.ofString (toString i)).length ≤ k + 2 := by
  rw [PyProof.Rows.ofString_len]
  cases i with
  | ofNat m =>
    have := repr_le (n := m) (k := k) h
    show (Nat.repr m).length ≤ _
    omega
  | negSucc m =>
    have := repr_le (n := m + 1) (k := k) h
    show ("-" ++ Nat.repr (m + 1)).length ≤ _
    have h1 : "-".length = 1 := by decide
    simp [String.length_append]
    omega
theorem log2_lt {n k : Nat} (h : n < 2 ^ k) (hk : 0 < k) : n.log2 < k := by
  by_cases h0 : n = 0
  · subst h0; simpa using hk
  · exact (Nat.log2_lt h0).mpr h
variable (sub : Str → Str → Option Bool)
/-- an int's text -/
def istr (i : Int) : Str := Str.ofString (toString i)
@[simp] theorem sOk_istr (i : Int) : sOk (istr i) = true := sOk_ofS _
theorem len_istr {i : Int} {k : Nat} (h : i.natAbs < 10 ^ (k + 1)) : (istr i).length ≤ k + 2 := len_int h
theorem of_str {i : Int} (h : i.natAbs < 2 ^ 64) : opF sub .str_ [.int i] = some (.str (istr i)) := by
  show (if i.natAbs.log2 < 1920 then some (D.str (toString i)) else none) = _
  rw [if_pos (Nat.lt_trans (log2_lt h (by omega)) (by omega))]
  rfl
theorem of_str0 (i : Int) : opF sub .str_ [.int i] = if i.natAbs.log2 < 1920 then some (.str (istr i)) else none := id rfl
/-! ### plain data, equality -/
@[simp] theorem pl_non (n : Nat) : D.pl n .non = true := by cases n <;> simp only [D.pl]
@[simp] theorem pl_bl (n : Nat) (b : Bool) : D.pl n (.bl b) = true := by cases n <;> simp only [D.pl]
@[simp] theorem pl_int (n : Nat) (b : Int) : D.pl n (.int b) = true := by cases n <;> simp only [D.pl]
@[simp] theorem pl_str (n : Nat) (b : Str) : D.pl n (.str b) = sOk b := by cases n <;> simp only [D.pl, sOk]
@[simp] theorem pl_tup (n : Nat) (l : List D) : D.pl (n + 1) (.tup l) = D.plL n l := by simp only [D.pl]
@[simp] theorem pl_lst (n : Nat) (m : Bool) (l : List D) : D.pl (n + 1) (.lst m l) = D.plL n l := by simp only [D.pl]
@[simp] theorem plL_nil (n : Nat) : D.plL n [] = true := by simp only [D.plL]
@[simp] theorem plL_cons (n : Nat) (d : D) (l : List D) : D.plL n (d :: l) = (D.pl n d && D.plL n l) := by simp only [D.plL]
theorem plL_all {n : Nat} : ∀ {l : List D}, (∀ d ∈ l, D.pl n d = true) → D.plL n l = true
  | [], _ => plL_nil n
  | d :: l, h => by rw [plL_cons, h d List.mem_cons_self, plL_all fun x hx => h x (List.mem_cons_of_mem _ hx)]; rfl
@[simp] theorem plL_ints (n : Nat) (ns : List Int) : D.plL n (ns.map D.int) = true := plL_all fun d h => by
  obtain ⟨i, _, rfl⟩ := List.mem_map.mp h
  exact pl_int n i
@[simp] theorem plL_app (n : Nat) (a b : List D) : D.plL n (a ++ b) = (D.plL n a && D.plL n b) := by
  induction a with
  | nil => simp
  | cons d a ih => rw [List.cons_append, plL_cons, ih, plL_cons, Bool.and_assoc]
@[simp] theorem eqb_non : D.eqb .non .non = true := by simp only [D.eqb]
@[simp] theorem eqb_bl (a b : Bool) : D.eqb (.bl a) (.bl b) = (a == b) := by simp only [D.eqb]
@[simp] theorem eqb_int (a b : Int) : D.eqb (.int a) (.int b) = (a == b) := by simp only [D.eqb]
@[simp] theorem eqb_str (a b : Str) : D.eqb (.str a) (.str b) = (a == b) := by simp only [D.eqb]
@[simp] theorem eqb_tup (a b : List D) : D.eqb (.tup a) (.tup b) = D.eqbL a b := by simp only [D.eqb]
@[simp] theorem eqb_lst (m k : Bool) (a b : List D) : D.eqb (.lst m a) (.lst k b) = D.eqbL a b := by simp only [D.eqb]
@[simp] theorem eqbL_nil : D.eqbL [] [] = true := by simp only [D.eqbL]
@[simp] theorem eqbL_cons (a b : D) (r s : List D) : D.eqbL (a :: r) (b :: s) = (D.eqb a b && D.eqbL r s) := by simp only [D.eqbL]
@[simp] theorem eqbL_nc (a : D) (r : List D) : D.eqbL [] (a :: r) = false := by simp only [D.eqbL]
@[simp] theorem eqbL_cn (a : D) (r : List D) : D.eqbL (a :: r) [] = false := by simp only [D.eqbL]
mutual
theorem eqb_refl : ∀ (n : Nat) (d : D), D.pl n d = true → D.eqb d d = true
  | _, .non, _ => eqb_non
  | _, .bl b, _ => by simp
  | _, .int b, _ => by simp
  | _, .str b, _ => by simp
  | 0, .tup l, h => by simp [D.pl] at h
  | n + 1, .tup l, h => by rw [eqb_tup]; exact eqbL_refl n l (by simpa using h)
  | 0, .lst m l, h => by simp [D.pl] at h
  | n + 1, .lst m l, h => by rw [eqb_lst]; exact eqbL_refl n l (by simpa using h)
  | 0, .dct _ _ _, h => by simp [D.pl] at h
  | n + 1, .dct _ _ _, h => by simp [D.pl] at h
  | 0, .ins _ _ _ _, h => by simp [D.pl] at h
  | n + 1, .ins _ _ _ _, h => by simp [D.pl] at h
theorem eqbL_refl : ∀ (n : Nat) (l : List D), D.plL n l = true → D.eqbL l l = true
  | _, [], _ => eqbL_nil
  | n, d :: l, h => by
    rw [plL_cons, Bool.and_eq_true] at h
    rw [eqbL_cons, eqb_refl n d h.1, eqbL_refl n l h.2]
    rfl
end
@[simp] theorem eqbL_ints : ∀ (a b : List Int), D.eqbL (a.map D.int) (b.map D.int) = (a == b)
  | [], [] => by simp
  | [], _ :: _ => by simp
  | _ :: _, [] => by simp
  | x :: a, y :: b => by
    rw [List.map_cons, List.map_cons, eqbL_cons, eqb_int, eqbL_ints a b]
    rfl
/-- two tuples, two lists: == -/
theorem of_eqT (a b : List D) (h : (D.plL 8 a && D.plL 8 b) = true) : opF sub .eq [.tup a, .tup b] = some (.bl (D.eqbL a b)) := by
  rw [of_eqP sub (.inr (by simpa using h)), eqb_tup]
theorem of_neT (a b : List D) (h : (D.plL 8 a && D.plL 8 b) = true) : opF sub .ne [.tup a, .tup b] = some (.bl (!D.eqbL a b)) := by
  rw [of_neP sub (.inr (by simpa using h)), eqb_tup]
theorem of_eqL (m k : Bool) (a b : List D) (h : (D.plL 8 a && D.plL 8 b) = true) : opF sub .eq [.lst m a, .lst k b] = some (.bl (D.eqbL a b)) := by
  rw [of_eqP sub (.inr (by simpa using h)), eqb_lst]
theorem of_neL (m k : Bool) (a b : List D) (h : (D.plL 8 a && D.plL 8 b) = true) : opF sub .ne [.lst m a, .lst k b] = some (.bl (!D.eqbL a b)) := by
  rw [of_neP sub (.inr (by simpa using h)), eqb_lst]
/-- methods -/
@[simp] theorem mtD_ins (P : Pg) (m : Str) (dvs : List Cst) (l : R1 (List D)) (b : Bool) (c : Str) (fs : List Str) (ds : List D) : mtD P m dvs l (.ins b c fs ds) = if (!fs.contains m) = true then match P.mt c m with
    | none => .bad
    | some f => l.bind fun xs => (P.cal f (.ins b c fs ds :: (xs ++ dvs.map Cst.d))).val
    else .bad := id rfl
@[simp] theorem of_isTI (i : Int) : opF sub (.isT "int") [.int i] = some (.bl true) := id rfl
@[simp] theorem of_isTIb (i : Int) : opF sub (.isT "bool") [.int i] = some (.bl false) := id rfl
@[simp] theorem of_isTB (i : Bool) : opF sub (.isT "bool") [.bl i] = some (.bl true) := id rfl
@[simp] theorem of_isTIB (i : Bool) : opF sub (.isT "int") [.bl i] = some (.bl true) := id rfl
@[simp] theorem of_isTS (i : Str) : opF sub (.isT "str") [.str i] = some (.bl true) := id rfl
@[simp] theorem of_isTL (m : Bool) (i : List D) : opF sub (.isT "list") [.lst m i] = some (.bl true) := id rfl
@[simp] theorem of_isTT (i : List D) : opF sub (.isT "tuple") [.tup i] = some (.bl true) := id rfl
@[simp] theorem of_isTD (m : Bool) (ks : List Key) (i : List D) : opF sub (.isT "dict") [.dct m ks i] = some (.bl true) := id rfl
theorem of_join (a : Str) (m : Bool) (ys : List Str) (h : (ys.map (·.length)).sum + ys.length * a.length < lim) : opF sub .join [.str a, .lst m (ys.map D.str)] = some (.str (Txt.join a ys)) := by
  have e : D.strs (ys.map D.str) = some ys := by
    clear h
    induction ys with
    | nil => rfl
    | cons i ns ih => rw [List.map_cons]; unfold D.strs; rw [ih]; rfl
  show ((D.strs (ys.map D.str)).bind fun ys => if (ys.map (·.length)).sum + ys.length * a.length < lim then some (D.str (Txt.join a ys)) else none) = _
  rw [e]
  show (if _ then _ else _) = _
  rw [if_pos h]
theorem rngOk_of {i j : Int} (h : -1000000000000000000 ≤ i ∧ i ≤ 1000000000000000000 ∧ -1000000000000000000 ≤ j ∧ j ≤ 1000000000000000000) : rngOk i j = true := by
  unfold rngOk
  simp only [Bool.and_eq_true, decide_eq_true_eq]
  omega
theorem sum_le {l : List Nat} {k : Nat} (h : ∀ x ∈ l, x ≤ k) : l.sum ≤ l.length * k := by
  induction l with
  | nil => simp
  | cons a l ih =>
    have h1 := h a List.mem_cons_self
    have h2 := ih fun x hx => h x (List.mem_cons_of_mem _ hx)
    simp only [List.sum_cons, List.length_cons, Nat.succ_mul]
    omega
def chr (z : Str) (i : Int) : Str := ⟨#[z.cps.toList.getD i.toNat 0]⟩
theorem of_ixS (z : Str) (i : Int) (h0 : 0 ≤ i) (h1 : i < z.length) (h2 : z.length < lim) : opF sub .ix [.str z, .int i] = some (.str (chr z i)) := by
  have hl : z.cps.toList.length = z.length := rfl
  show (if z.length < lim then ((ixN z.cps.toList.length i).bind fun k => z.cps.toList[k]?).map fun c => D.str ⟨#[c]⟩ else none) = _
  rw [if_pos h2, ixN_ok h0 (by rw [hl]; exact h1)]
  show (z.cps.toList[i.toNat]?).map _ = _
  have hi : i.toNat < z.cps.toList.length := by rw [hl]; omega
  rw [List.getElem?_eq_getElem hi]
  unfold chr
  rw [List.getD_eq_getElem?_getD, List.getElem?_eq_getElem hi]
  rfl
theorem sOk_chr (z : Str) (i : Int) (h : sOk z = true) : sOk (chr z i) = true := by
  unfold chr
  refine sOk_one ?_
  rw [List.getD_eq_getElem?_getD]
  cases e : z.cps.toList[i.toNat]? with
  | none => exact Nat.zero_lt_succ _
  | some c => exact sOk_iff.mp h c (List.mem_of_getElem? e)
@[simp] theorem len_chr (z : Str) (i : Int) : (chr z i).length = 1 := id rfl
theorem lcGo_mapf {β : Type} {f : D → R1 (Option D)} {e h : β → D} : ∀ (l : List β) (acc : List D), (∀ b ∈ l, f (e b) = .ok (some (h b))) → lcGo f (l.map e) acc = .ok (.lst true (acc ++ l.map h))
  | [], acc, _ => by simp [lcGo]
  | b :: r, acc, k => by
    rw [List.map_cons]
    unfold lcGo
    rw [k b List.mem_cons_self]
    show lcGo f (r.map e) (acc ++ [h b]) = _
    rw [lcGo_mapf r _ fun x hx => k x (List.mem_cons_of_mem _ hx)]
    simp
theorem lcGo_filterf {β : Type} {f : D → R1 (Option D)} {e h : β → D} {p : β → Bool} : ∀ (l : List β) (acc : List D), (∀ b ∈ l, f (e b) = .ok (if p b = true then some (h b) else none)) → lcGo f (l.map e) acc = .ok (.lst true (acc ++ (l.filter p).map h))
  | [], acc, _ => by simp [lcGo]
  | b :: r, acc, k => by
    rw [List.map_cons]
    unfold lcGo
    rw [k b List.mem_cons_self]
    by_cases hp : p b = true
    · rw [if_pos hp, List.filter_cons_of_pos hp]
      show lcGo f (r.map e) (acc ++ [h b]) = _
      rw [lcGo_filterf r _ fun x hx => k x (List.mem_cons_of_mem _ hx)]
      simp
    · rw [if_neg hp, List.filter_cons_of_neg hp]
      show lcGo f (r.map e) acc = _
      exact lcGo_filterf r _ fun x hx => k x (List.mem_cons_of_mem _ hx)
/-- a place in a list -/
theorem of_ixG (m : Bool) (l : List D) {i : Int} (h0 : 0 ≤ i) (h1 : i < l.length) : opF sub .ix [.lst m l, .int i] = l[i.toNat]? := by
  rw [of_ixL, ixN_ok h0 h1]
  rfl
theorem of_ixGT (l : List D) {i : Int} (h0 : 0 ≤ i) (h1 : i < l.length) : opF sub .ix [.tup l, .int i] = l[i.toNat]? := by
  rw [of_ixT, ixN_ok h0 h1]
  rfl
theorem of_ixM {β : Type} (m : Bool) (e : β → D) (l : List β) (z : β) {i : Int} (h0 : 0 ≤ i) (h1 : i < l.length) : opF sub .ix [.lst m (l.map e), .int i] = some (e (l.getD i.toNat z)) := by
  rw [of_ixG sub m _ h0 (by simpa using h1), List.getElem?_map, List.getD_eq_getElem?_getD, List.getElem?_eq_getElem (by omega)]
  rfl
/-- the i-th number -/
def atN (l : List Int) (i : Int) : Int := l.getD i.toNat 0
theorem of_ixI (m : Bool) (l : List Int) {i : Int} (h0 : 0 ≤ i) (h1 : i < l.length) : opF sub .ix [.lst m (l.map D.int), .int i] = some (.int (atN l i)) := of_ixM sub m D.int l 0 h0 h1
theorem len_cut01n {α : Type} (l : List α) (h : 0 < l.length) : cutL l none (some (-1)) = l.dropLast := by
  unfold cutL
  have e : HT.sIx l.length l.length (some (-1)) = l.length - 1 := by
    show (if (-1 : Int) < 0 then ((-1 : Int) + (l.length : Int)).toNat else min (-1 : Int).toNat l.length) = _
    rw [if_pos (by omega)]
    omega
  rw [e, HT.sIx_none, List.drop_zero, List.dropLast_eq_take, Nat.sub_zero]
end LD
namespace LD
open PySem PySem.Spec PyProof.Rows L2
variable (sub : Str → Str → Option Bool)

/-! ### loops that leave with a value -/
theorem forGo_all {f : D → Env → RS} {β : Type} {e : β → D} {p : β → Bool} {z : D} (I : Env → Prop) : ∀ (l : List β), (∀ b ∈ l, ∀ α, I α → ∃ α', I α' ∧ f (e b) α = if p b = true then .nx α' else .ret z α') → ∀ α, I α → ∃ α', I α' ∧ forGo f (l.map e) α = if l.all p = true then .nx α' else .ret z α'
  | [], _, α, h => ⟨α, h, by simp [forGo]⟩
  | b :: r, k, α, h => by
    obtain ⟨α1, h1, e1⟩ := k b List.mem_cons_self α h
    rw [List.map_cons]
    unfold forGo
    by_cases hb : p b = true
    · rw [if_pos hb] at e1
      rw [e1]
      obtain ⟨α2, h2, e2⟩ := forGo_all I r (fun x hx => k x (List.mem_cons_of_mem _ hx)) α1 h1
      refine ⟨α2, h2, ?_⟩
      show forGo f (r.map e) α1 = _
      rw [e2]
      simp [hb]
    · rw [if_neg hb] at e1
      rw [e1]
      refine ⟨α1, h1, ?_⟩
      simp [hb]
/-- a loop over what a list becomes; the invariant tells what is done -/
theorem forGo_fold {f : D → Env → RS} {β : Type} {e : β → D} (I : List β → Env → Prop) : ∀ (l done : List β), (∀ b done α, b ∈ l → I done α → ∃ α', (f (e b) α = .nx α' ∨ f (e b) α = .ct α') ∧ I (done ++ [b]) α') → ∀ α, I done α → ∃ α', I (done ++ l) α' ∧ forGo f (l.map e) α = .nx α'
  | [], done, _, α, h => ⟨α, by simpa using h, by simp [forGo]⟩
  | b :: r, done, k, α, h => by
    obtain ⟨α1, e1, h1⟩ := k b done α List.mem_cons_self h
    rw [List.map_cons]
    unfold forGo
    obtain ⟨α2, h2, e2⟩ := forGo_fold I r (done ++ [b]) (fun x dn α hx => k x dn α (List.mem_cons_of_mem _ hx)) α1 h1
    refine ⟨α2, by simpa using h2, ?_⟩
    rcases e1 with e1 | e1 <;> (rw [e1]; exact e2)

/-- the same; what is behind and what is ahead is told -/
theorem forGo_foldW {f : D → Env → RS} {β : Type} {e : β → D} (I : List β → Env → Prop) (whole : List β) (step : ∀ done b rest α, whole = done ++ b :: rest → I done α → ∃ α', (f (e b) α = .nx α' ∨ f (e b) α = .ct α') ∧ I (done ++ [b]) α') {α : Env} (h0 : I [] α) : ∃ α', I whole α' ∧ forGo f (whole.map e) α = .nx α' := by
  have key : ∀ (l done : List β), whole = done ++ l → ∀ α, I done α → ∃ α', I whole α' ∧ forGo f (l.map e) α = .nx α' := by
    intro l
    induction l with
    | nil => intro done hw α h; exact ⟨α, by rw [hw, List.append_nil]; exact h, by simp [forGo]⟩
    | cons b r ih =>
      intro done hw α h
      obtain ⟨α1, e1, h1⟩ := step done b r α hw h
      obtain ⟨α2, h2, e2⟩ := ih (done ++ [b]) (by rw [hw]; simp) α1 h1
      rw [List.map_cons]
      unfold forGo
      refine ⟨α2, h2, ?_⟩
      rcases e1 with e1 | e1 <;> (rw [e1]; exact e2)
  exact key whole [] rfl _ h0
/-! ### dicts whose keys are texts -/
abbrev kS (ks : List Str) : List Key := ks.map Sum.inr
theorem fidx_key (k : Str) : ∀ ks : List Str, (kS ks).findIdx? (fun j => decide (j = (Sum.inr k : Key))) = ks.findIdx? (fun j => decide (j = k))
  | [] => rfl
  | g :: ks => by
    show List.findIdx? _ (Sum.inr g :: kS ks) = _
    rw [List.findIdx?_cons, List.findIdx?_cons, fidx_key k ks]
    have : decide ((Sum.inr g : Key) = Sum.inr k) = decide (g = k) := by
      by_cases h : g = k <;> simp [h]
    rw [this]
theorem of_ixDS (m : Bool) (ks : List Str) (l : List D) (k : Str) : opF sub .ix [.dct m (kS ks) l, .str k] = fldAt k ks l := by
  show ((some (Sum.inr k : Key)).bind fun k => ((kS ks).findIdx? fun j => decide (j = k)).bind fun i => l[i]?) = _
  simp only [Option.bind_some]
  rw [fidx_key, fldAt_eq]
theorem of_inDS (m : Bool) (ks : List Str) (l : List D) (k : Str) : opF sub .in_ [.str k, .dct m (kS ks) l] = some (.bl (decide (k ∈ ks))) := by
  show (keyOf (.str k)).map (fun k => D.bl (((kS ks).any fun j => decide (j = k)) != false)) = _
  simp [keyOf]
  rw [Bool.eq_iff_iff]
  simp
theorem of_notinDS (m : Bool) (ks : List Str) (l : List D) (k : Str) : opF sub .notin [.str k, .dct m (kS ks) l] = some (.bl (!decide (k ∈ ks))) := by
  show (keyOf (.str k)).map (fun k => D.bl (((kS ks).any fun j => decide (j = k)) != true)) = _
  simp [keyOf]
  rw [Bool.eq_iff_iff]
  simp
@[simp] theorem keysS (ks : List Str) : (kS ks).map keyD = ks.map D.str := by
  rw [List.map_map]
  exact List.map_congr_left fun _ _ => rfl
def putK (k : Str) : List Str → List Str
  | [] => [k]
  | g :: ks => if g = k then g :: ks else g :: putK k ks
def putV (k : Str) (x : D) : List Str → List D → List D
  | [], l => l ++ [x]
  | _ :: _, [] => []
  | g :: ks, y :: l => if g = k then x :: l else y :: putV k x ks l
theorem putV_len (k : Str) (x : D) : ∀ (ks : List Str) (l : List D), ks.length = l.length → (putV k x ks l).length = (putK k ks).length
  | [], [], _ => rfl
  | [], _ :: _, h => by cases h
  | _ :: _, [], h => by cases h
  | g :: ks, y :: l, h => by
    unfold putV putK
    split
    · exact h.symm
    · simp only [List.length_cons]
      rw [putV_len k x ks l (by simpa using h)]
theorem putK_mem {k j : Str} : ∀ {ks : List Str}, j ∈ putK k ks ↔ j = k ∨ j ∈ ks
  | [] => by simp [putK]
  | g :: ks => by
    unfold putK
    split
    · rename_i h
      subst h
      simp
    · rw [List.mem_cons, putK_mem, List.mem_cons]
      constructor
      · rintro (h | h | h) <;> simp [h]
      · rintro (h | h | h) <;> simp [h]
theorem putK_nd {k : Str} : ∀ {ks : List Str}, ks.Nodup → (putK k ks).Nodup
  | [], _ => by simp [putK]
  | g :: ks, h => by
    unfold putK
    split
    · exact h
    · rename_i hg
      rw [List.nodup_cons] at h ⊢
      refine ⟨fun m => ?_, putK_nd h.2⟩
      rcases putK_mem.mp m with e | e
      · exact hg e
      · exact h.1 e
theorem putK_le (k : Str) : ∀ ks : List Str, (putK k ks).length ≤ ks.length + 1
  | [] => by simp [putK]
  | g :: ks => by
    unfold putK
    split
    · simp
    · simp only [List.length_cons]
      have := putK_le k ks
      omega
theorem putK_old {k : Str} : ∀ {ks : List Str}, k ∈ ks → putK k ks = ks
  | [], h => by cases h
  | g :: ks, h => by
    unfold putK
    split
    · rfl
    · rename_i hg
      rcases List.mem_cons.mp h with e | e
      · exact absurd e.symm hg
      · rw [putK_old e]
theorem putK_new {k : Str} : ∀ {ks : List Str}, k ∉ ks → putK k ks = ks ++ [k]
  | [], _ => rfl
  | g :: ks, h => by
    unfold putK
    rw [if_neg fun e => h (by rw [e]; exact List.mem_cons_self), putK_new fun m => h (List.mem_cons_of_mem _ m)]
    rfl
theorem putV_new {k : Str} {x : D} : ∀ {ks : List Str} {l : List D}, k ∉ ks → ks.length = l.length → putV k x ks l = l ++ [x]
  | [], _, _, _ => rfl
  | _ :: _, [], _, h => by cases h
  | g :: ks, y :: l, h, hl => by
    unfold putV
    rw [if_neg fun e => h (by rw [e]; exact List.mem_cons_self), putV_new (fun m => h (List.mem_cons_of_mem _ m)) (by simpa using hl)]
    rfl
theorem fldAt_put {k j : Str} {x : D} : ∀ {ks : List Str} {l : List D}, ks.length = l.length → fldAt j (putK k ks) (putV k x ks l) = if j = k then some x else fldAt j ks l
  | [], [], _ => by
    by_cases h : k = j
    · subst h; simp [putK, putV, fldAt]
    · have h' : ¬ j = k := fun e => h e.symm
      simp [putK, putV, fldAt, h, h']
  | [], _ :: _, h => by cases h
  | _ :: _, [], h => by cases h
  | g :: ks, y :: l, hl => by
    unfold putK putV
    by_cases hg : g = k
    · subst hg
      rw [if_pos rfl, if_pos rfl, fldAt_cons, fldAt_cons]
      by_cases h : g = j
      · subst h; simp
      · have h' : ¬ j = g := fun e => h e.symm
        simp [h, h']
    · rw [if_neg hg, if_neg hg, fldAt_cons, fldAt_cons, fldAt_put (by simpa using hl)]
      by_cases h : g = j
      · subst h; simp [hg]
      · simp [h]
theorem fldAt_mem {k : Str} : ∀ {ks : List Str} {l : List D}, ks.length = l.length → k ∈ ks → ∃ x, fldAt k ks l = some x ∧ x ∈ l
  | [], _, _, h => by cases h
  | _ :: _, [], h, _ => by cases h
  | g :: ks, y :: l, hl, h => by
    rw [fldAt_cons]
    by_cases hg : g = k
    · exact ⟨y, by rw [if_pos hg], List.mem_cons_self⟩
    · rcases List.mem_cons.mp h with e | e
      · exact absurd e.symm hg
      · obtain ⟨x, h1, h2⟩ := fldAt_mem (by simpa using hl) e
        exact ⟨x, by rw [if_neg hg]; exact h1, List.mem_cons_of_mem _ h2⟩
theorem mo_setDS {ks : List Str} {l : List D} (nd : ks.Nodup) (hl : ks.length = l.length) (hm : ks.length < lim) (k : Str) (x : D) : moF .setI (.dct true (kS ks) l) [.str k, x] = some (.dct true (kS (putK k ks)) (putV k x ks l), .non) := by
  show (if (kS ks).length < lim then (some (Sum.inr k : Key)).bind fun k => match (kS ks).findIdx? fun j => decide (j = k) with
    | some i => if dupAt (kS ks) i k = true then none else some (D.dct true (kS ks) (l.set i x), D.non)
    | none => some (D.dct true (kS ks ++ [k]) (l ++ [x]), D.non)
    else none) = _
  rw [if_pos (by simpa using hm)]
  simp only [Option.bind_some]
  rw [fidx_key]
  have key : ∀ (ks : List Str) (l : List D), ks.Nodup → ks.length = l.length → match ks.findIdx? (fun j => decide (j = k)) with
      | some i => dupAt (kS ks) i (Sum.inr k) = false ∧ putK k ks = ks ∧ putV k x ks l = l.set i x
      | none => putK k ks = ks ++ [k] ∧ putV k x ks l = l ++ [x] := by
    intro ks
    induction ks with
    | nil => intro l _ h; exact ⟨rfl, rfl⟩
    | cons g ks ih =>
      intro l nd hl
      cases l with
      | nil => cases hl
      | cons y l =>
        rw [List.nodup_cons] at nd
        rw [List.findIdx?_cons]
        by_cases hg : g = k
        · subst hg
          simp only [decide_true, if_true]
          refine ⟨?_, by simp [putK], by simp [putV]⟩
          unfold dupAt
          simp only [List.any_eq_false, List.drop_succ_cons, List.drop_zero]
          intro j hj
          simp only [List.map_cons, List.drop_succ_cons, List.drop_zero, List.mem_map] at hj
          obtain ⟨q, hq, rfl⟩ := hj
          intro e
          have : q = g := by simpa using e
          exact nd.1 (this ▸ hq)
        · have := ih l nd.2 (by simpa using hl)
          simp only [hg, decide_false]
          cases hf : ks.findIdx? (fun j => decide (j = k)) with
          | none =>
            rw [hf] at this
            simp [putK, putV, hg, this.1, this.2]
          | some i =>
            rw [hf] at this
            obtain ⟨h1, h2, h3⟩ := this
            simp [putK, putV, hg, h2, h3]
            unfold dupAt at h1 ⊢
            simpa using h1
  have hk := key ks l nd hl
  split
  · rename_i i hi
    rw [hi] at hk
    rw [hk.1, hk.2.1, hk.2.2]
    rfl
  · rename_i hi
    rw [hi] at hk
    rw [hk.1, hk.2]
    simp
/-- dicts of ints -/
def val (ks : List Str) (vs : List Int) (k : Str) : Int := match fldAt k ks (vs.map D.int) with
  | some (.int i) => i
  | _ => 0
theorem fldAt_val {ks : List Str} {vs : List Int} {k : Str} (hl : ks.length = vs.length) (h : k ∈ ks) : fldAt k ks (vs.map D.int) = some (.int (val ks vs k)) := by
  obtain ⟨x, h1, h2⟩ := fldAt_mem (l := vs.map D.int) (by simpa using hl) h
  obtain ⟨i, _, rfl⟩ := List.mem_map.mp h2
  unfold val
  rw [h1]
theorem putV_ints (k : Str) (i : Int) : ∀ (ks : List Str) (vs : List Int), ks.length = vs.length → ∃ ws : List Int, putV k (.int i) ks (vs.map D.int) = ws.map D.int ∧ ws.length = (putK k ks).length
  | [], [], _ => ⟨[i], rfl, rfl⟩
  | [], _ :: _, h => by cases h
  | _ :: _, [], h => by cases h
  | g :: ks, v :: vs, h => by
    rw [List.map_cons]
    unfold putV putK
    by_cases hg : g = k
    · rw [if_pos hg, if_pos hg]
      exact ⟨i :: vs, rfl, by simpa using h.symm⟩
    · rw [if_neg hg, if_neg hg]
      obtain ⟨ws, h1, h2⟩ := putV_ints k i ks vs (by simpa using h)
      exact ⟨v :: ws, by rw [h1]; rfl, by simp [h2]⟩
@[simp] theorem fzL_strs (ns : List Str) : D.fzL (ns.map D.str) = true := fzL_all fun d h => by
  obtain ⟨i, _, rfl⟩ := List.mem_map.mp h
  simp
@[simp] theorem frL_strs (ns : List Str) : D.freezeL (ns.map D.str) = ns.map D.str := freezeL_fz (fzL_strs ns)
/-- a dict of ints, by texts -/
structure DI where
  ks : List Str
  vs : List Int
  hl : ks.length = vs.length
def DI.d (b : Bool) (x : DI) : D := .dct b (kS x.ks) (x.vs.map D.int)
def DI.v (x : DI) (k : Str) : Int := val x.ks x.vs k
@[simp] theorem DI.fz (x : DI) : D.fz (x.d false) = true := by simp [DI.d]
@[simp] theorem DI.fr (b : Bool) (x : DI) : D.freeze (x.d b) = x.d false := by simp [DI.d]
@[simp] theorem DI.cl (x : DI) : D.clean (x.d true) = true := by simp [DI.d]
theorem DI.ix {b : Bool} {x : DI} {k : Str} (h : k ∈ x.ks) : opF sub .ix [x.d b, .str k] = some (.int (x.v k)) := by
  unfold DI.d DI.v
  rw [of_ixDS, fldAt_val x.hl h]
@[simp] theorem DI.len (b : Bool) (x : DI) : opF sub .len [x.d b] = some (.int x.ks.length) := by simp [DI.d]
def DI.nil : DI := ⟨[], [], rfl⟩
/-- one is put -/
theorem DI.put (x : DI) (nd : x.ks.Nodup) (hm : x.ks.length < lim) (k : Str) (i : Int) : ∃ y : DI, moF .setI (x.d true) [.str k, .int i] = some (y.d true, .non) ∧ y.ks = putK k x.ks ∧ (∀ j, j = k ∨ j ∈ x.ks → y.v j = if j = k then i else x.v j) := by
  obtain ⟨ws, h1, h2⟩ := putV_ints k i x.ks x.vs x.hl
  refine ⟨⟨putK k x.ks, ws, h2.symm⟩, ?_, rfl, fun j hj => ?_⟩
  · unfold DI.d
    rw [mo_setDS nd (by simpa using x.hl) hm, h1]
  · unfold DI.v val
    have := fldAt_put (j := j) (k := k) (x := .int i) (ks := x.ks) (l := x.vs.map D.int) (by simpa using x.hl)
    rw [h1] at this
    simp only
    rw [this]
    by_cases e : j = k
    · rw [if_pos e, if_pos e]
    · rw [if_neg e, if_neg e]
theorem DI.items (b : Bool) (x : DI) : itF .keys [x.d b] = some (x.ks.map D.str) := by
  unfold DI.d
  rw [it_keys, keysS]
end LD
namespace LD
open PySem PySem.Spec PyProof.Rows L2
variable (sub : Str → Str → Option Bool)

/-! ### counting -/
def cnt {β : Type} (p : β → Bool) (l : List β) : Int := (l.filter p).length
theorem cnt_nil {β : Type} (p : β → Bool) : cnt p [] = 0 := rfl
theorem cnt_cons {β : Type} (p : β → Bool) (x : β) (l : List β) : cnt p (x :: l) = (if p x = true then 1 else 0) + cnt p l := by
  unfold cnt
  by_cases h : p x = true
  · simp [h]; omega
  · simp [h]
theorem cnt_app {β : Type} (p : β → Bool) (l r : List β) : cnt p (l ++ r) = cnt p l + cnt p r := by
  unfold cnt
  rw [List.filter_append, List.length_append]
  omega
theorem cnt_snoc {β : Type} (p : β → Bool) (l : List β) (x : β) : cnt p (l ++ [x]) = cnt p l + if p x = true then 1 else 0 := by
  rw [cnt_app, cnt_cons, cnt_nil]
  omega
theorem cnt_nn {β : Type} (p : β → Bool) (l : List β) : 0 ≤ cnt p l := by unfold cnt; omega
theorem cnt_perm {β : Type} {p : β → Bool} {l r : List β} (h : l.Perm r) : cnt p l = cnt p r := by
  unfold cnt
  rw [(h.filter p).length_eq]
theorem cnt_congr {β : Type} {p q : β → Bool} : ∀ {l : List β}, (∀ x ∈ l, p x = q x) → cnt p l = cnt q l
  | [], _ => rfl
  | x :: l, h => by rw [cnt_cons, cnt_cons, h x List.mem_cons_self, cnt_congr fun y hy => h y (List.mem_cons_of_mem _ hy)]
theorem cnt_map {β γ : Type} (p : γ → Bool) (f : β → γ) : ∀ l : List β, cnt p (l.map f) = cnt (fun x => p (f x)) l
  | [] => rfl
  | x :: l => by rw [List.map_cons, cnt_cons, cnt_cons, cnt_map p f l]
theorem cnt_or {β : Type} (p q : β → Bool) (h : ∀ y, p y = true → q y = true → False) : ∀ l : List β, cnt (fun y => p y || q y) l = cnt p l + cnt q l
  | [] => rfl
  | y :: l => by
    rw [cnt_cons, cnt_cons, cnt_cons, cnt_or p q h l]
    by_cases h1 : p y = true
    · have h2 : ¬ q y = true := fun z => h y h1 z
      simp only [h1, h2, Bool.true_or, if_true]
      simp
      omega
    · by_cases h2 : q y = true <;> simp [h1, h2] <;> omega
theorem sum_app (a b : List Int) : (a ++ b).sum = a.sum + b.sum := List.sum_append
theorem sum_perm {a b : List Int} (h : a.Perm b) : a.sum = b.sum := by
  induction h with
  | nil => rfl
  | cons x _ ih => rw [List.sum_cons, List.sum_cons, ih]
  | swap x y l => simp only [List.sum_cons]; omega
  | trans _ _ i j => rw [i, j]
theorem sum_add {β : Type} (f g : β → Int) : ∀ l : List β, (l.map fun y => f y + g y).sum = (l.map f).sum + (l.map g).sum
  | [] => rfl
  | y :: l => by
    simp only [List.map_cons, List.sum_cons]
    rw [sum_add f g l]
    omega
theorem sum_cnt {β : Type} (p : β → Bool) : ∀ l : List β, (l.map fun y => if p y = true then (1 : Int) else 0).sum = cnt p l
  | [] => rfl
  | y :: l => by
    rw [List.map_cons, List.sum_cons, cnt_cons, sum_cnt p l]
theorem sum_zero {β : Type} : ∀ l : List β, (l.map fun _ => (0 : Int)).sum = 0
  | [] => rfl
  | y :: l => by rw [List.map_cons, List.sum_cons, sum_zero l]; rfl
/-- pairs, in order -/
def due {β : Type} (p : β → β → Bool) (ls : List β) : Int := (ls.map fun x => cnt (p x) ls).sum
/-- sums over pairs may be turned about -/
theorem pairs_swap {β γ : Type} (p : β → γ → Bool) : ∀ (l : List β) (r : List γ), (l.map fun x => cnt (p x) r).sum = (r.map fun y => cnt (fun x => p x y) l).sum
  | [], r => by
    have : (r.map fun y => cnt (fun x => p x y) ([] : List β)) = r.map fun _ => (0 : Int) := rfl
    rw [this, sum_zero]
    rfl
  | x :: l, r => by
    rw [List.map_cons, List.sum_cons, pairs_swap p l r, ← sum_cnt, ← sum_add]
    congr 1
    exact List.map_congr_left fun y _ => (cnt_cons (fun x => p x y) x l).symm
theorem due_swap {β : Type} (p : β → β → Bool) (ls : List β) : due (fun x y => p y x) ls = due p ls := (pairs_swap p ls ls).symm
theorem due_perm {β : Type} (p : β → β → Bool) {l r : List β} (h : l.Perm r) : due p l = due p r := by
  unfold due
  rw [sum_perm (h.map _)]
  congr 1
  exact List.map_congr_left fun x _ => cnt_perm h
theorem due_congr {β : Type} {p q : β → β → Bool} {ls : List β} (h : ∀ x ∈ ls, ∀ y ∈ ls, p x y = q x y) : due p ls = due q ls := by
  unfold due
  congr 1
  exact List.map_congr_left fun x hx => cnt_congr fun y hy => h x hx y hy
theorem due_map {β γ : Type} (p : γ → γ → Bool) (f : β → γ) (ls : List β) : due p (ls.map f) = due (fun x y => p (f x) (f y)) ls := by
  unfold due
  rw [List.map_map]
  congr 1
  exact List.map_congr_left fun x _ => cnt_map _ _ _
theorem due_snoc {β : Type} (p : β → β → Bool) (hi : ∀ x, p x x = false) (ls : List β) (x : β) : due p (ls ++ [x]) = due p ls + cnt (fun y => p y x) ls + cnt (p x) ls := by
  unfold due
  rw [List.map_append, sum_app]
  have h1 : (ls.map fun y => cnt (p y) (ls ++ [x])) = ls.map fun y => cnt (p y) ls + if p y x = true then 1 else 0 := List.map_congr_left fun y _ => cnt_snoc _ _ _
  rw [h1, sum_add, sum_cnt (fun y => p y x)]
  simp only [List.map_cons, List.map_nil, List.sum_cons, List.sum_nil]
  rw [cnt_snoc, hi]
  simp
/-- each with those ahead of it -/
def crossN {β : Type} (p : β → β → Bool) (ls : List β) : Int := (ls.zipIdx.map fun q => cnt (fun y => p q.1 y || p y q.1) (ls.take q.2)).sum
theorem crossN_snoc {β : Type} (p : β → β → Bool) (ls : List β) (x : β) : crossN p (ls ++ [x]) = crossN p ls + cnt (fun y => p x y || p y x) ls := by
  unfold crossN
  rw [List.zipIdx_append, List.map_append, sum_app]
  have h1 : (ls.zipIdx.map fun q => cnt (fun y => p q.1 y || p y q.1) ((ls ++ [x]).take q.2)) = ls.zipIdx.map fun q => cnt (fun y => p q.1 y || p y q.1) (ls.take q.2) := List.map_congr_left fun q hq => by
    have : q.2 < ls.length := by
      obtain ⟨_, h, _⟩ := List.mem_zipIdx (x := q.1) (i := q.2) hq
      omega
    rw [List.take_append_of_le_length (by omega)]
  rw [h1]
  simp
theorem cross_due {β : Type} (p : β → β → Bool) (ha : ∀ x y, p x y = true → p y x = true → False) (ls : List β) : crossN p ls = due p ls := by
  have hi : ∀ x, p x x = false := fun x => by
    cases h : p x x with
    | false => rfl
    | true => exact (ha x x h h).elim
  have key : ∀ l : List β, crossN p l.reverse = due p l.reverse := by
    intro l
    induction l with
    | nil => rfl
    | cons x l ih =>
      rw [List.reverse_cons, crossN_snoc, due_snoc p hi, ih, cnt_or (p x) (fun y => p y x) (fun y h1 h2 => ha x y h1 h2)]
      omega
  have := key ls.reverse
  rwa [List.reverse_reverse] at this
/-! ### texts in lists -/
theorem eqb_any (x : Str) (r : List Str) : ((r.map D.str).any fun y => D.eqb y (.str x)) = decide (x ∈ r) := by
  rw [Bool.eq_iff_iff]
  simp only [List.any_eq_true, List.mem_map, decide_eq_true_eq]
  constructor
  · rintro ⟨_, ⟨y, hy, rfl⟩, h⟩
    have : y = x := by simpa using h
    exact this ▸ hy
  · intro h
    exact ⟨_, ⟨x, h, rfl⟩, by simp⟩
theorem flat_strs (r : List Str) : (r.map D.str).all D.flat = true := by
  rw [List.all_eq_true]
  intro d hd
  obtain ⟨y, _, rfl⟩ := List.mem_map.mp hd
  rfl
theorem of_inS (m : Bool) (x : Str) (r : List Str) : opF sub .in_ [.str x, .lst m (r.map D.str)] = some (.bl (decide (x ∈ r))) := by
  show (if (true && (r.map D.str).all D.flat) = true then some (D.bl (((r.map D.str).any fun y => D.eqb y (.str x)) != false)) else _) = _
  rw [flat_strs, eqb_any]
  simp
theorem of_notinS (m : Bool) (x : Str) (r : List Str) : opF sub .notin [.str x, .lst m (r.map D.str)] = some (.bl (!decide (x ∈ r))) := by
  show (if (true && (r.map D.str).all D.flat) = true then some (D.bl (((r.map D.str).any fun y => D.eqb y (.str x)) != true)) else _) = _
  rw [flat_strs, eqb_any]
  simp
/-- where a text stands -/
def idx (r : List Str) (x : Str) : Int := (r.findIdx fun y => decide (y = x) : Nat)
theorem findIdx_strs (x : Str) : ∀ r : List Str, x ∈ r → (r.map D.str).findIdx? (fun y => D.eqb y (.str x)) = some (r.findIdx fun y => decide (y = x))
  | [], h => by cases h
  | y :: r, h => by
    rw [List.map_cons, List.findIdx?_cons, List.findIdx_cons]
    by_cases e : y = x
    · subst e; simp
    · have hm : x ∈ r := by
        rcases List.mem_cons.mp h with q | q
        · exact absurd q.symm e
        · exact q
      have e' : D.eqb (.str y) (.str x) = false := by simp [e]
      rw [e', findIdx_strs x r hm]
      simp [e]
theorem of_idxS (m : Bool) (x : Str) (r : List Str) (h : x ∈ r) : opF sub .index [.lst m (r.map D.str), .str x] = some (.int (idx r x)) := by
  show (if ((D.str x).flat && (r.map D.str).all D.flat) = true then ((r.map D.str).findIdx? fun y => D.eqb y (.str x)).map fun j => D.int (j : Nat) else none) = _
  rw [flat_strs, findIdx_strs x r h]
  rfl
theorem idx_b {r : List Str} {x : Str} (h : x ∈ r) : 0 ≤ idx r x ∧ idx r x < r.length := by
  unfold idx
  have : r.findIdx (fun y => decide (y = x)) < r.length := List.findIdx_lt_length_of_exists ⟨x, h, by simp⟩
  omega
theorem idx_get {r : List Str} {x : Str} (h : x ∈ r) : r[(idx r x).toNat]? = some x := by
  have hl : r.findIdx (fun y => decide (y = x)) < r.length := List.findIdx_lt_length_of_exists ⟨x, h, by simp⟩
  have e : (idx r x).toNat = r.findIdx (fun y => decide (y = x)) := by unfold idx; omega
  rw [e, List.getElem?_eq_getElem hl]
  have := List.findIdx_getElem (w := hl)
  simpa using this
theorem idx_inj {r : List Str} {x y : Str} (hx : x ∈ r) (hy : y ∈ r) (e : idx r x = idx r y) : x = y := by
  have a := idx_get hx
  have b := idx_get hy
  rw [e, b] at a
  exact (Option.some.inj a).symm
theorem idx_at {r : List Str} (nd : r.Nodup) {i : Nat} {x : Str} (h : r[i]? = some x) : idx r x = i := by
  obtain ⟨hl, e⟩ := List.getElem?_eq_some_iff.mp h
  have hx : x ∈ r := e ▸ List.getElem_mem hl
  have a := idx_get hx
  have b := (idx_b hx).2
  have c := (idx_b hx).1
  have k : (idx r x).toNat = i := by
    obtain ⟨hl2, e2⟩ := List.getElem?_eq_some_iff.mp a
    exact (List.getElem_inj nd).mp (e2.trans e.symm)
  omega
/-! ### numbers' texts are apart -/
theorem istr_inj64 : ∀ i : Fin 200, ∀ j : Fin 200, istr ((i.val : Nat) : Int) = istr ((j.val : Nat) : Int) → i = j := by decide +kernel
theorem istr_inj {i j : Nat} (hi : i < 200) (hj : j < 200) (h : istr (i : Int) = istr (j : Int)) : i = j := by
  have := istr_inj64 ⟨i, hi⟩ ⟨j, hj⟩ h
  exact congrArg Fin.val this
theorem app_inj {a z x y : Str} (h : a ++ x ++ z = a ++ y ++ z) : x = y := by
  have h1 : (a.cps ++ x.cps ++ z.cps).toList = (a.cps ++ y.cps ++ z.cps).toList := congrArg (fun s : Str => s.cps.toList) h
  rw [Array.toList_append, Array.toList_append, Array.toList_append, Array.toList_append] at h1
  have h2 := List.append_cancel_right h1
  have h3 := List.append_cancel_left h2
  cases x
  cases y
  exact congrArg Str.mk (Array.toList_inj.mp h3)
/-! ### the numbers drawn -/
def mix0 (a k : Int) : Int := (a + 7919 * k + 1) % 2147483647 * 48271 % 2147483647
def mix1 (a k : Int) : Int := mix0 a k * (mix0 a k / 1009 + 69621) % 2147483647
def mix (a k : Int) : Int := mix1 a k * (mix1 a k / 127 + 30011) % 2147483647
theorem mix_b (a k : Int) : 0 ≤ mix a k ∧ mix a k < 2147483647 := by unfold mix; omega
end LD
namespace LD
open PySem PySem.Spec PyProof.Rows L2
section
variable {X : Cx} {ct : Str → Option Addr} {sub : Str → Str → Option Bool} {cf : CfZ X.K ct sub} {P : Pg} {W : WX}
variable {a b c : Expr} {ea eb ec : E} {es : List Expr} {el : EL} {pos : Pos} {kr : Nat}
/-- what is never reached -/
theorem s_never {st : Stmt} : JS X cf P W st .never := ⟨fun pins s σ H D I h => False.elim h⟩
theorem t_isN {j p2} (ha : JE X cf P W a ea) : JB X cf P W (.Compare a [.Is] [.Constant .none j p2] pos) (.e (.prim .isNon (.cons ea .nil))) := by
  refine ⟨fun pins s σ H Q I h => ?_⟩
  refine wpAny_isTrue_Compare1 (thn (ha.run pins s σ H _ I h) fun v s1 hh => ?_) (nomark _)
  obtain ⟨x, H1, I1, r1, x', e, q⟩ := hh
  cases e
  refine thn ((pe_non (j := j) (pos := p2)).run pins s1 σ H1 (fun y H2 => y = .non ∧ ∃ k, V.bl (decide (x = .non)) = .bl k ∧ Q k H2) I1 ⟨rfl, q⟩) fun u s2 hh2 => ?_
  obtain ⟨y, H2, I2, r2, q2⟩ := hh2
  refine thn (op_isN pins s2 σ H2 x y v u (fun z H3 => ∃ k, z = .bl k ∧ Q k H3) I2 r1 r2 q2) fun d s3 hh => ?_
  obtain ⟨z, H3, I3, r3, k, e, q4⟩ := hh
  subst e
  cases r3
  exact wpAny_truthy_bool ⟨H3, I3, q4⟩
theorem t_notN {j p2} (ha : JE X cf P W a ea) : JB X cf P W (.Compare a [.IsNot] [.Constant .none j p2] pos) (.e (.prim .notNon (.cons ea .nil))) := by
  refine ⟨fun pins s σ H Q I h => ?_⟩
  refine wpAny_isTrue_Compare1 (thn (ha.run pins s σ H _ I h) fun v s1 hh => ?_) (nomark _)
  obtain ⟨x, H1, I1, r1, x', e, q⟩ := hh
  cases e
  refine thn ((pe_non (j := j) (pos := p2)).run pins s1 σ H1 (fun y H2 => y = .non ∧ ∃ k, V.bl (!decide (x = .non)) = .bl k ∧ Q k H2) I1 ⟨rfl, q⟩) fun u s2 hh2 => ?_
  obtain ⟨y, H2, I2, r2, q2⟩ := hh2
  refine thn (op_notN pins s2 σ H2 x y v u (fun z H3 => ∃ k, z = .bl k ∧ Q k H3) I2 r1 r2 q2) fun d s3 hh => ?_
  obtain ⟨z, H3, I3, r3, k, e, q4⟩ := hh
  subst e
  cases r3
  exact wpAny_truthy_bool ⟨H3, I3, q4⟩
theorem s_bor (i : Nat) {st : Stmt} {s1 : S} (h : JS X cf P W st s1) : JS X cf P W st (.bor i s1) := h
/-- for x in o: x.m() -/
theorem s_each (x : Nat) {i : Nat} {ps : List Pst} {ty : Ty} {mo : MOp} {tg iter : Expr} {sts : List Stmt} (hp : PassesOwn (model X.prog X.w) X.A X.env X.xe) (hc : X.calm = true) (ho : JP X cf P W i iter ps) (hg : PG X tg (gP X.K (.one x)))
    (hb : JSs X cf P W sts (.mut none ty x [] mo [])) (hs : ∀ x, foldedSetIterable iter X.env x = pure x := by intro _; rfl) : JS X cf P W (.For tg iter sts [] pos) (.each x i ps ty mo) := by
  have hi : PI X tg iter (fun σ H R => semPath (ops X.K ct sub cf) P W ps (tVar i) σ H fun v H1 => ∃ a xs, v = .ref a ∧ SqL X.K H1 a xs ∧ R (Itl X.K a) H1) := by
    refine ⟨fun pins s σ H R I h => ?_⟩
    refine thn (ho.run pins s σ H _ I h) fun v s1 hh => ?_
    obtain ⟨x, H1, I1, r1, p, xs, e, hq, q⟩ := hh
    subst e
    cases r1
    obtain ⟨its, rv, pl, hz⟩ := I1.list hq
    refine wpAny_pyIter_list pl.isList ?_
    refine ⟨s1.heap.objs.size, [s1.heap.objs.size], _, _, H1, rfl, I1.kept (t' := s1.toks) fun b o e => Heap.get?_push_of_some _ e, turn_list p _, ⟨_, Heap.get?_push_size _ rfl, rfl, rfl⟩, fun b hb => ?_, q⟩
    have e : b = s1.heap.objs.size := by simpa using hb
    subst e
    exact I1.fpOk (Nat.le_refl _) (I1.hok.fresh (Nat.le_refl _))
  exact ps_for hp hc hi hg hb hs
theorem s_eachT (x j : Nat) {i : Nat} {ty : Ty} {mo : MOp} {tg iter : Expr} {sts : List Stmt} (hp : PassesOwn (model X.prog X.w) X.A X.env X.xe) (hc : X.calm = true) (ho : JP X cf P W i iter [.ix (.c (.int (j : Int)))]) (hg : PG X tg (gP X.K (.one x)))
    (hb : JSs X cf P W sts (.mut none ty x [] mo [])) (hs : ∀ x, foldedSetIterable iter X.env x = pure x := by intro _; rfl) : JS X cf P W (.For tg iter sts [] pos) (.eachT x i j ty mo) := s_each x hp hc ho hg hb hs
/-- t[j].m(..) of a tuple's item -/
def EL.toAs : EL → List A
  | .nil => []
  | .cons e es => .e e :: es.toAs
theorem toAs_sem (O : Ops X.K ct) : ∀ es : EL, semAs O P W es.toAs = semL O P W es
  | .nil => rfl
  | .cons e es => by
    show tCons (semE O P W e) (semAs O P W es.toAs) = tCons (semE O P W e) (semL O P W es)
    rw [toAs_sem O es]
theorem s_mutT {i j : Nat} {ty : Ty} {mo : MOp} {es : EL} (h : PE X a (tMut (ops X.K ct sub cf) P W ty i [.ix (.c (.int (j : Int)))] mo es.toAs)) (hs : swapsWith a none pos.line X.env = pure false := by rfl) : JS X cf P W (.Expr a pos) (.mutT ty i j mo es) := by
  have q := ps_expr h hs
  refine ⟨fun pins s σ H D I hh => q.run pins s σ H D I ?_⟩
  show tDrop (tMut (ops X.K ct sub cf) P W ty i [.ix (.c (.int (j : Int)))] mo es.toAs) D σ H
  unfold tMut
  rw [toAs_sem]
  exact hh
/-- for .. in reversed(range(n)) -/
theorem i_revR1 {tg : Expr} {p p2 pos2 : Pos} (hm : X.mg "reversed" = none) (hm2 : X.mg "range" = none) (ha : JE X cf P W a ea) (hg : Gl X "reversed" := by rfl) (hg2 : Gl X "range" := by rfl) (hs : starEach [.Call (.Name "range" p2) [a] [] pos2] X.env = (false, eval (.Call (.Name "range" p2) [a] [] pos2) X.env) :: starEach [] X.env := by rfl)
    (hs2 : starEach [a] X.env = (false, eval a X.env) :: starEach [] X.env := by rfl) : JI X cf P W tg (.Call (.Name "reversed" p) [.Call (.Name "range" p2) [a] [] pos2] [] pos) .revR1 (.cons ea .nil) :=
  pi_revR (tg := tg) (p := p) (pos := pos) hg hm (prg_1 hg2 hm2 ha hs2) hs
/-- o.remove(x), of data -/
theorem mtq_remove (hu : X.A.units + 65 < cLine) : MtR X "list.remove" (rRemoveQ X.K) := by
  intro pins s σ H x vs v us Q I rx rv h
  obtain ⟨l, xs, y, d, ds, j, z, rfl, rfl, hl, hlen, hds, hd, sl, sd, hz, heq, hfirst, q⟩ := h
  cases rx
  obtain ⟨u, rfl, ru⟩ := vals1 rv
  obtain ⟨_, vals, n, rvs, hvl, hobj⟩ := I.lstM hl
  obtain ⟨bs, readsX⟩ := Dp.reads I d y u hd ru
  obtain ⟨as, readsL⟩ := Dp.readsAll I ds xs vals hds rvs
  have lay : PyData.canLayAll0 ds = true := SeqAt.canLay_of_shaped sl
  have room : X.A.units + 1 + min (PyData.depthAll ds) d.depth < cLine := room_in_shaped sd hu
  have cnt1 : vals.length = ds.length := SeqAt.ReadsAll.length ds vals as readsL
  have back : vals.map (SeqAt.readOf s.heap) = ds := SeqAt.readsAll_map ds vals as lay readsL
  have cnt2 := rvs.length
  have line := sizeLine_eq
  have jd : j < ds.length := (List.getElem?_eq_some_iff.mp hz).1
  have jv : j < vals.toArray.size := by simpa [cnt1] using jd
  have look : ∀ (m : Nat) (hm : m < vals.toArray.size) (w : PyData), ds[m]? = some w → SeqAt.readOf s.heap vals.toArray[m] = w := fun m hm w hw => by
    have hm2 : m < vals.length := by simpa using hm
    have e2 : (vals.map (SeqAt.readOf s.heap))[m]? = some w := by rw [back]; exact hw
    rw [List.getElem?_map, List.getElem?_eq_getElem hm2] at e2
    simpa using e2
  have fits : vals.toArray.size ≤ sizeLine := by
    rw [List.size_toArray]
    omega
  have m1 := SeqAt.list_removeAt l vals.toArray n none #[] u (fun w => PyData.eqv (SeqAt.readOf s.heap w) d) j jv (by show PyData.eqv (SeqAt.readOf s.heap vals.toArray[j]) d = true; rw [look j jv z hz]; exact heq) (fun m hm hmj => by
    have hmd : m < ds.length := by omega
    show PyData.eqv (SeqAt.readOf s.heap vals.toArray[m]) d = false
    rw [look m hm _ (List.getElem?_eq_getElem hmd)]
    exact hfirst m _ hmj (List.getElem?_eq_getElem hmd)) fits
  refine call_meets PySem.F.slot_list_remove ⟨_, hobj, rfl⟩ PySem.F.entry_list_remove (PySem.F.args_list_remove_2 _ _) m1 ⟨hobj, SeqAt.items_eqAt (vs := vals.toArray) (by simpa using readsL) readsX lay (SeqAt.canLay_of_shaped sd) room, ?_⟩
  refine ⟨.non, _, I.lset (its' := vals.eraseIdx j) hl hobj ?_ (rvs.eraseIdx j) ?_, rfl, q⟩
  · show vals.toArray.eraseIdxIfInBounds j = (vals.eraseIdx j).toArray
    rw [List.eraseIdxIfInBounds_toArray]
  · rw [List.length_eraseIdx]
    split <;> omega
theorem pe_weak {te te' : TE} (h : PE X a te) (k : ∀ σ H Q, te' σ H Q → te σ H Q) : PE X a te' := ⟨fun pins s σ H Q I q => h.run pins s σ H Q I (k σ H Q q)⟩
theorem rIxQ_det {K : PySem.W.Frag} {x y : V} {H : Hp} {Q : VK} (h : rIxQ K x y H Q) : ∃ v, Q v H ∧ ∀ Q' : VK, Q' v H → rIxQ K x y H Q' := by
  rcases h with ⟨p, xs, i, v, h1, h2, h3, h4, q⟩ | ⟨p, xs, i, v, h1, h2, h3, h4, q⟩ | ⟨z, i, c, h1, h2, h3, h4, q⟩ | ⟨a, v, h1, h2, q⟩
  · exact ⟨v, q, fun Q' q' => .inl ⟨p, xs, i, v, h1, h2, h3, h4, q'⟩⟩
  · exact ⟨v, q, fun Q' q' => .inr (.inl ⟨p, xs, i, v, h1, h2, h3, h4, q'⟩)⟩
  · exact ⟨_, q, fun Q' q' => .inr (.inr (.inl ⟨z, i, c, h1, h2, h3, h4, q'⟩))⟩
  · exact ⟨v, q, fun Q' q' => .inr (.inr (.inr ⟨a, v, h1, h2, q'⟩))⟩
/-- o.insert(x, o.pop(b)), o a list's item at a name -/
theorem mu_insPop {i k ia : Nat} {o1 o2 x e : Expr} {ap1 ap2 cp1 cp2 : Pos} (ho1 : JP X cf P W i o1 [.ix (.v k)]) (ho2 : JP X cf P W i o2 [.ix (.v k)]) (hx : JE X cf P W x (.v ia)) (he : JE X cf P W e eb)
    (hbase1 : attributeBase o1 "insert" X.env (eval o1 X.env) = eval o1 X.env := by rfl)
    (hbase2 : attributeBase o2 "pop" X.env (eval o2 X.env) = eval o2 X.env := by rfl)
    (hfew1 : ((backTo cp1 (starEach [x, .Call (.Attribute o2 "pop" ap2) [e] [] cp2] X.env)).all (fun x => !x.1) && (backToKw cp1 (keywordEach [] X.env)).all (fun x => x.1.isSome)
      && decide ([x, .Call (.Attribute o2 "pop" ap2) [e] [] cp2].length + ([] : List Keyword).length + (if ([] : List Keyword).isEmpty then 0 else 1) < 30)) = true := by rfl)
    (hfew2 : ((backTo cp2 (starEach [e] X.env)).all (fun x => !x.1) && (backToKw cp2 (keywordEach [] X.env)).all (fun x => x.1.isSome)
      && decide ([e].length + ([] : List Keyword).length + (if ([] : List Keyword).isEmpty then 0 else 1) < 30)) = true := by rfl)
    (hline1 : (ap1.endLine == cp1.line) = true := by rfl) (hline2 : (ap2.endLine == cp2.line) = true := by rfl)
    (hs0 : starEach [.Call (.Attribute o2 "pop" ap2) [e] [] cp2] X.env = (false, eval (.Call (.Attribute o2 "pop" ap2) [e] [] cp2) X.env) :: starEach [] X.env := by rfl)
    (hs1 : starEach [x, .Call (.Attribute o2 "pop" ap2) [e] [] cp2] X.env = (false, eval x X.env) :: starEach [.Call (.Attribute o2 "pop" ap2) [e] [] cp2] X.env := by rfl)
    (hs2 : starEach [e] X.env = (false, eval e X.env) :: starEach [] X.env := by rfl)
    (hp1 : (backTo cp1 (starEach [.Call (.Attribute o2 "pop" ap2) [e] [] cp2] X.env)).any (·.1) = false := by rfl) (hp2 : (backTo cp2 (starEach [] X.env)).any (·.1) = false := by rfl) :
    PE X (.Call (.Attribute o1 "insert" ap1) [x, .Call (.Attribute o2 "pop" ap2) [e] [] cp2] [] cp1) (tMut (ops X.K ct sub cf) P W .list i [.ix (.v k)] .insPop [.e (.v ia), .e eb]) := by
  have hpop := pe_bmq (T := "list") (name := "pop") PySem.F.plainAttrs_list PySem.F.slot_list_pop PySem.F.type_list_pop (r := rPopAt) mt_popAt ho2 (pa_cons he pa_nil hs2) hbase2 hfew2 hline2 hs2 hp2
  have hins := pe_bmq (T := "list") (name := "insert") PySem.F.plainAttrs_list PySem.F.slot_list_insert PySem.F.type_list_insert (r := rInsertQ) mtq_insert ho1 (pa_cons hx (pa_cons hpop pa_nil hs0) hs1) hbase1 hfew1 hline1 hs1 hp1
  refine pe_weak hins fun σ H Q h => ?_
  obtain ⟨v, hv, y, hy, hr⟩ := h
  obtain ⟨u, ⟨ty, va, h1, hq⟩, det⟩ := rIxQ_det hr
  refine ⟨v, hv, y, hy, det _ ⟨ty, va, h1, ?_⟩⟩
  refine ⟨v, hv, y, hy, det _ ⟨ty, ?_⟩⟩
  exact hq
end
variable {P : Pg} {mf : MOp → D → List D → Option (D × D)} {n : Nat} {α : Env}
/-- a slot lent, step by step -/
theorem bor_nx {i : Nat} {s : S} {d : D} {α' β : Env} (hi : α[i]? = some (some d)) (hg : s.asgs.contains i = false) (h : runS P mf n s (α.set i (some d.freeze)) = .nx α') (ht : thaw s.asgs i 0 α α' = some β) : runS P mf n (.bor i s) α = .nx (β.set i (some d)) := by
  show (match α[i]? with
    | some (some d) => if s.asgs.contains i = true then RS.bad else match runS P mf n s (α.set i (some d.freeze)) with
      | .nx α' => match thaw s.asgs i 0 α α' with
        | some β => .nx (β.set i (some d))
        | none => .bad
      | .ret r α' => if r.clean = true then match thaw s.asgs i 0 α α' with
        | some β => .ret r (β.set i (some d))
        | none => .bad
        else .bad
      | _ => .bad
    | _ => .bad) = _
  rw [hi]
  dsimp only
  rw [hg, if_neg Bool.false_ne_true, h]
  dsimp only
  rw [ht]
theorem each_nx {x i : Nat} {ps : List Pst} {ty : Ty} {o : MOp} {d : D} {p : List Nat} {items items' : List D} (hi : α[i]? = some (some d)) (hp : evPath P α ps d = .ok p) (hg : getAt p d = some (.lst true items)) (he : eachD mf ty o items = some items') (hx : x < α.length) : runS P mf n (.each x i ps ty o) α = .nx ((α.set i (some (setAt p d (.lst true items')))).set x none) := by
  show (match α[i]? with
    | some (some d) => match evPath P α ps d with
      | .ok p => match getAt p d with
        | some (.lst true items) => match eachD mf ty o items with
          | some items' => if x < α.length then RS.nx ((α.set i (some (setAt p d (.lst true items')))).set x none) else .bad
          | none => .bad
        | _ => .bad
      | _ => .bad
    | _ => .bad) = _
  rw [hi]
  dsimp only
  rw [hp]
  dsimp only
  rw [hg]
  dsimp only
  rw [he]
  dsimp only
  rw [if_pos hx]
theorem eachT_nx {x i j : Nat} {ty : Ty} {o : MOp} {l items items' : List D} (hi : α[i]? = some (some (.tup l))) (hg : l[j]? = some (.lst true items)) (he : eachD mf ty o items = some items') (hx : x < α.length) : runS P mf n (.eachT x i j ty o) α = .nx ((α.set i (some (.tup (l.set j (.lst true items'))))).set x none) := by
  show (match α[i]? with
    | some (some (.tup l)) => match l[j]? with
      | some (.lst true items) => match eachD mf ty o items with
        | some items' => if x < α.length then RS.nx ((α.set i (some (.tup (l.set j (.lst true items'))))).set x none) else .bad
        | none => .bad
      | _ => .bad
    | _ => .bad) = _
  rw [hi]
  dsimp only
  rw [hg]
  dsimp only
  rw [he]
  dsimp only
  rw [if_pos hx]
theorem mo_popAtN (l : List D) (k : Nat) {y : D} (h : l[k]? = some y) (hk : (k : Int) < 2 ^ 63) : moF .popAt (.lst true l) [.int (k : Int)] = some (.lst true (l.eraseIdx k), y) := by
  have hl : k < l.length := (List.getElem?_eq_some_iff.mp h).1
  have e : moF .popAt (.lst true l) [.int (k : Int)] = mPopAt (.lst true l) [.int (k : Int)] := rfl
  rw [e]
  unfold mPopAt
  dsimp only
  rw [if_pos ⟨by omega, hk⟩, seqIndex_of (by omega) (by omega)]
  simp [h]
theorem mo_insPop (l : List D) (i j : Int) : moF .insPop (.lst true l) [.int i, .int j] = (moF .popAt (.lst true l) [.int j]).bind fun t => moF .insert t.1 [.int i, t.2] := id rfl
section
variable {Pr : Program} {w : World} {K : PySem.W.Frag} {mg : Str → Option Value} {base : Heap} {ct : Str → Option Addr} {sub : Str → Str → Option Bool}
/-! defs with defaults -/
theorem funD_mk {x qual : Str} {st : Stmt} {f T : Addr} {oc oc2 : Value} {od an od2 : Option Addr} {osl sl2 : Array (Option Value)} {kV doc pm cdv c2 : Value} {dvs : List V} {its : List Value} {n : Nat} (l : K.lookup f = some ⟨oc, od, .func (PySem.W.fnOf x qual (defArgs st) (defBody st) (defScope st) (.ref T) kV doc pm an cdv c2), osl⟩)
    (lT : K.lookup T = some ⟨oc2, od2, .seq its.toArray n, sl2⟩) (v : Vals dvs its) (hd : dvs ≠ []) (c : PySem.W.codeIn K cdv qual = true) (k : PySem.W.keepIn K (.ref f) = true) : FunD K x qual (defArgs st) (defBody st) (defScope st) dvs [] f (PySem.W.fnOf x qual (defArgs st) (defBody st) (defScope st) (.ref T) kV doc pm an cdv c2) :=
  ⟨⟨oc, od, .ref T, kV, doc, pm, an, cdv, c2, osl, rfl, l, c, .inr ⟨hd, T, _, its, n, rfl, lT, rfl, v⟩, .inl rfl⟩, k⟩
theorem fn_okD (cf : Cf K ct sub) {Pg0 : Pg} (ft : ∀ z, Fit (ops K ct sub ⟨cf, z⟩) Pg0) {x qual : Str} {st : Stmt} {dvs : List V} {fa : Addr} {fd : FuncData} {N ps : List Str} {k n : Nat} {fn : Fn} (F : FunD K x qual (defArgs st) (defBody st) (defScope st) dvs [] fa fd) (S : FnScope N ps (defScope st)) (hns : fn.np ≤ fn.ns) (hN : N.length = fn.ns) (hps : ps.length = fn.np)
    (hbody : ∀ (cdv : Value) (A : Around) (outer : List PySem.Env) (s : Shared) (H : Hp) (E : XK), Room k (A.deeper (envOfC qual (defScope st) s.heap.objs.size fa cdv)) →
      PSs (cxOf (L2.CX Pr w) Pr w K mg base N qual (defScope st) fa cdv A outer s H E) (defBody st) (semS (ops K ct sub ⟨cf, H⟩) (mops K ct) Pg0 (fun cls d _ H => E cls d H) fn.body)) :
    FnOk Pr w K mg base (L2.CX Pr w) (k + 1) fa fd ps (spR K ct (runF Pg0 moF n fn)) := by
  refine F.ok S (fun vs H Q E h => ?_) (fun cdv A outer s H vs Q E hr h => ⟨_, hbody cdv A outer s H E hr, ?_⟩)
  · obtain ⟨G, ds, fs, w, rl, hc⟩ := h
    rw [rl.length, hps]
    by_cases hl : ds.length = fn.np
    · exact hl
    · unfold runF at hc
      rw [if_neg hl] at hc
      exact hc.elim
  · exact fn_body (ft H) rfl hns hN h
theorem calD {x qual : Str} {st : Stmt} {dvs : List V} {fa : Addr} {fd : FuncData} {ps : List Str} {k : Nat} {g : List D → RF} {cs : List Cst} (F : FunD K x qual (defArgs st) (defBody st) (defScope st) dvs [] fa fd) (ok : FnOk Pr w K mg base (L2.CX Pr w) k fa fd ps (spR K ct g)) (n j : Nat) (hd : dvs ≠ []) (hn : n + (dvs.length - j) = ps.length)
    (h : ∀ (T : Addr) (kV doc pm : Value) (an : Option Addr) (cdv c2 : Value) (us its : List Value), us.length = n → its.length = dvs.length →
      ∃ k, bindArgs (PySem.W.fnOf x qual (defArgs st) (defBody st) (defScope st) (.ref T) kV doc pm an cdv c2) ⟨us, []⟩ = seqItems? (.ref T) >>= k ∧ k (some its.toArray) = pure (ps.zip (us ++ its.drop j))) (e : dvs.drop j = cs.map Cst.v) : CalOk Pr w K mg base ct k g fa cs := by
  obtain ⟨ds, v, b⟩ := F.binds1 n j hd hn h
  rw [e] at v
  exact ⟨fd, ps, ds, ok, b, v, F.kp⟩
end
end LD
namespace LD
open PySem PySem.Spec PyProof.Rows L2

/-! ### a caught exception is tracked -/
section
variable {X : Cx} {pins : List (Addr × Obj)} {σ : L2.St} {H : Hp} {sI s : Shared} {B : Heap} {a C : Addr} {d : Option Addr} {oe : Obj} {vs : Array Value}
theorem not_before (I : Inv X pins σ H sI) (nb : ∀ b o, sI.heap.get? b = some o → b ∉ frs X.stack → B.get? b = some o) (hn : B.get? a = none) (nf : a ∉ frs X.stack) : sI.heap.get? a = none := by
  cases e : sI.heap.get? a with
  | none => rfl
  | some o =>
    have z := nb a o e nf
    rw [hn] at z
    cases z
theorem track_x (J : Inv X pins σ H s) (h0 : ∀ o, X.s_0.heap.get? a = some o → a ∈ X.ex) (hp : ∀ p ∈ X.pn ++ pins, p.1 ≠ a) (ha : s.heap.get? a = some oe) (hz : Zc (.ref C) d oe) (hd : oe.data = .fields vs) (na : H a = none) (nL : a ≠ X.env.locals) :
    Inv (X.suite a (X.pn ++ pins)) [] σ (upd H a (XO C d a)) s := by
  have hn : ∀ {b}, b ≠ a → upd H a (XO C d a) b = H b := fun e => upd_ne e
  refine ⟨J.ok.suite _ _, J.os, J.bare, ⟨J.base.keep, J.base.slot, fun b o e n hx => ?_, J.base.there, fun b xs e => ?_, fun b o u e => ?_, fun b ps e => ?_⟩, J.loc, J.cell, ?_, fun x c e => ?_, fun p m => ?_, J.hok.laidN (fun _ _ e => e) na ?_, J.len⟩
  · have : b ≠ a := fun z => hx (z ▸ h0 o (z ▸ e))
    rw [hn this]
    exact J.base.free b o e n hx
  · have q := J.base.tups b xs e
    rw [hn (ne_of_none q na)]
    exact q
  · have q := J.base.frzs b o u e
    rw [hn (ne_of_none q na)]
    exact q
  · obtain ⟨more, q⟩ := J.base.tbls b ps e
    exact ⟨more, by rw [hn (ne_of_none q na)]; exact q⟩
  · show upd H a (XO C d a) X.env.locals = none
    rw [hn (Ne.symm nL)]
    exact J.free
  · have ne : c ≠ a := fun z => by
      obtain ⟨v, q⟩ := J.cell x c e
      subst z
      obtain ⟨o, q1, q2⟩ := q
      rw [ha] at q1
      cases q1
      rw [hd] at q2
      cases q2
    rw [hn ne]
    exact J.freeC x c e
  · rw [List.append_nil] at m
    obtain ⟨q1, q2, q3⟩ := J.pin p m
    exact ⟨q1, by rw [hn (hp p m)]; exact q2, q3⟩
  · exact ⟨⟨oe, ha, hz, vs, hd⟩, ⟨oe, ha⟩, fun h1 h2 ⟨o1, e1, z1, w1⟩ k => ⟨o1, k o1 e1, z1, w1⟩⟩
theorem unsuite0 {pn' : List (Addr × Obj)} (I : Inv (X.suite a (X.pn ++ pins)) pn' σ H s) (ok : X.Ok) : Inv X pins σ H s :=
  ⟨ok, I.os, I.bare, I.base, I.loc, I.cell, I.free, I.freeC, fun p hp => I.pin p (List.mem_append_left _ hp), I.hok, I.len⟩
end
/-! ### try -/
def wCh (K : PySem.W.Frag) (ct : Str → Option Addr) : List (Str × Option Nat × TS) → WX → Ends → WX
  | [], W, _ => W
  | (c, i, t) :: r, W, D => wT K ct c i t (wCh K ct r W D) D
inductive HdX (X : Cx) (ct : Str → Option Addr) : List ExceptHandler → List (Str × Option Nat × TS) → Prop
  | nil : HdX X ct [] []
  | no {x : Str} {c : Str} {C : Addr} {ts : TS} {b₀ : Stmt} {suite : List Stmt} {np pos' : Pos} {hds : List ExceptHandler} {l : List (Str × Option Nat × TS)} (hct : ct c = some C) (hc : Names X x (.ref C))
      (hsu : ∀ (a : Addr) (pn : List (Addr × Obj)), PSs (X.suite a pn) (b₀ :: suite) ts) (r : HdX X ct hds l) : HdX X ct (.ExceptHandler (some (.Name x np)) none (b₀ :: suite) pos' :: hds) ((c, none, ts) :: l)
  | as {x n : Str} {c : Str} {C : Addr} {i : Nat} {ts : TS} {b₀ : Stmt} {suite : List Stmt} {np pos' : Pos} {hds : List ExceptHandler} {l : List (Str × Option Nat × TS)} (hct : ct c = some C) (hc : Names X x (.ref C)) (hi : X.N[i]? = some n) (hln : X.env.kindOf n = some .local)
      (hsu : ∀ (a : Addr) (pn : List (Addr × Obj)), PSs (X.suite a pn) (b₀ :: suite) ts) (r : HdX X ct hds l) : HdX X ct (.ExceptHandler (some (.Name x np)) (some n) (b₀ :: suite) pos' :: hds) ((c, some i, ts) :: l)
section
variable {X : Cx} {ct : Str → Option Addr} {body : List Stmt} {h₀ : ExceptHandler} {hds : List ExceptHandler} {l : List (Str × Option Nat × TS)} {pos : Pos} {tb : WX → TS} {Wout : WX}
theorem ps_tryX (hs : X.stack = X.env :: X.outer) (hf : X.env.frame = some X.env.locals) (hN : X.N.Nodup) (tk : Takes X Wout)
    (hb : ∀ (W : WX) (pn : List (Addr × Obj)) (xe : Value → Shared → Prop), Takes (X.tr pn xe) W → PassesOwn (model X.prog X.w) X.A X.env xe → PSs (X.tr pn xe) body (tb W))
    (hh : HdX X ct (h₀ :: hds) l) : PS X (.Try body (h₀ :: hds) [] [] pos) (fun D σ H => tb (wCh X.K ct l Wout D) D σ H) := by
  refine ⟨fun pins s σ H D I h => ?_⟩
  have ok := I.ok
  have hfr : X.A.frames = some (X.env :: X.outer) := by rw [ok.frames, hs]
  refine wpAny_Try_except ?_
  refine wpAny_mono ((hb (wCh X.K ct l Wout D) (X.pn ++ pins) (fun e s₁ => wpAny (model X.prog X.w) X.A (noteFrame e X.env) (fun _ s₂ => wpAny (model X.prog X.w) X.A (setFlight e none) (fun _ s₃ =>
    wpAny (model X.prog X.w) X.A (handleBy e X.env (h₀ :: hds)) (SP X pins D) X.xe s₃) X.xe s₂) X.xe s₁) (fun u s' xx => ?_) PassesOwn.looking).run [] s σ H D (I.toTry _) h) (fun f s1 hsp => ?_) (fun e s1 he => he)
  · obtain ⟨a, B, sI, pins', σ', H', cls, d, rfl, J', nb, up, sky, na, os, ag, w⟩ := xx
    have J : Inv X pins σ' H' sI := J'.ofTry ok
    have sky' : Sky B (X.env :: X.outer) a (Zc cls d) X.env.locals s'.heap := by rw [← hs]; exact sky
    show wpAny (model X.prog X.w) X.A (noteFrame (.ref a) X.env) _ _ _
    refine Sky.land Zc.steady hfr hf sky' fun h3 fl3 up3 => ?_
    have J3 : Inv X pins σ' H' { s' with heap := h3 } := J.landed nb fl3.1 (up.trans up3) os ag
    obtain ⟨oe3, vs3, he3, hz3, hd3⟩ := fl3.there
    have nfr : a ∉ frs (X.env :: X.outer) := fun hm => by
      obtain ⟨_, o', e', hnf⟩ := fl3.2.2.1.mem hm
      rw [he3] at e'
      cases e'
      exact hnf _ hd3
    have nfs : a ∉ frs X.stack := by rw [hs]; exact nfr
    have nL : a ≠ X.env.locals := fun z => nfr (List.mem_filterMap.mpr ⟨X.env, List.mem_cons_self, by rw [hf, z]⟩)
    have nF : a ∉ X.fs := fun hm => by
      obtain ⟨e, he, q⟩ := List.mem_filterMap.mp hm
      exact nfr (List.mem_filterMap.mpr ⟨e, List.mem_cons_of_mem _ he, q⟩)
    have aI : sI.heap.get? a = none := not_before J nb fl3.2.1 nfs
    have h0 : ∀ o, X.s_0.heap.get? a = some o → a ∈ X.ex := fun o e => by
      by_cases hx : a ∈ X.ex
      · exact hx
      · obtain ⟨o', q⟩ := J.base.there a o e hx
        rw [aI] at q
        cases q
    have hp : ∀ p ∈ X.pn ++ pins, p.1 ≠ a := fun p m z => by
      have q := (J.pin p m).1
      rw [z, aI] at q
      cases q
    have S3 := J3.suite he3 hd3 na nL nF
    have go : ∀ {hds' : List ExceptHandler} {l' : List (Str × Option Nat × TS)}, HdX X ct hds' l' → wCh X.K ct l' Wout D cls d σ' H' →
        wpAny (model X.prog X.w) X.A (handleBy (.ref a) X.env hds') (SP X pins D) X.xe { s' with heap := h3 } := by
      intro hds' l' hk
      induction hk with
      | nil =>
        intro w
        refine wpAny_handleBy_nil ?_
        obtain ⟨k1, k2, k3, oe, vs, T, oT, ts', he, hz, hd, h1, hr⟩ := id fl3
        unfold PySem.passOn
        refine wpAny_bind (wpAny_field he hd h1 ?_)
        rw [if_neg (show ¬ ((Value.ref T == Value.none) = true) from by simp)]
        have fin : wpAny (model X.prog X.w) X.A (setFlight (.ref a) X.env.frame) (fun _ s4 => wpAny (model X.prog X.w) X.A (throw (.ref a) : Sem Flow) (SP X pins D) X.xe s4) X.xe { s' with heap := h3 } := by
          rw [hf]
          refine HandSPX.setFlight_upZ fl3 fun h4 hh4 up4 => wpAny_throw (tk _ _ ?_)
          exact ⟨a, B, sI, pins, σ', H', cls, d, rfl, J, nb, (up.trans up3).trans up4, .inr (.inr (by rw [hs]; exact hh4)), na, os, ag, w⟩
        first
          | exact wpAny_bind (wpAny_pure (wpAny_bind fin))
          | exact wpAny_bind fin
      | @no x c C ts b₀ suite np pos' hds2 l2 hct hc hsu r ih =>
        intro w
        obtain ⟨C', b, hC', hb1, hyes, hno⟩ := w
        rw [hct] at hC'
        cases hC'
        refine wpAny_handleBy_cons (codeAny_handlers_test ?_) (by intro q; cases q)
        have LT : PySem.W.Looks (model X.prog X.w) h3 (typeOf (.ref a)) cls := fun A Q E s k q => wpAny_typeOf_ref (k _ _ he3) (by rw [hz3.1]; exact q)
        have LM := PySem.W.exm_one (M := model X.prog X.w) (J3.kIn) LT hb1
        have test : ∀ {Q : Value → Shared → Prop} {E : Value → Shared → Prop}, Q (.ref C) { s' with heap := h3 } → wpAny (model X.prog X.w) (X.A.mark (some (.ref a))) (eval (.Name x np) X.env) Q E { s' with heap := h3 } := fun {Q E} q => by
          obtain ⟨hg, hdbg, hm | ⟨hm, hv, hnn⟩⟩ := hc
          · exact ld_glob (X := X.suite a ((a, oe3) :: (X.pn ++ pins))) S3 hg hm q hdbg
          · exact ld_blt (X := X.suite a ((a, oe3) :: (X.pn ++ pins))) S3 hg hm hv q hnn hdbg
        refine test (LM.here ?_)
        cases b with
        | true =>
          obtain ⟨Bc, rfl, hts⟩ := hyes rfl a na
          refine codeAny_handlers_suite ?_
          refine HandSPX.lands_againZ fl3 fun h4 fl4 up4 => ?_
          have J4 : Inv X pins σ' H' { s' with heap := h4 } := J.landed nb fl4.1 ((up.trans up3).trans up4) os ag
          obtain ⟨oe4, vs4, he4, hz4, hd4⟩ := fl4.there
          have S4 := track_x J4 h0 hp he4 hz4 hd4 na nL
          refine wpAny_mono ((hsu a (X.pn ++ pins)).run [] _ _ _ _ S4 hts) (fun f s6 hsp => ?_) (fun _ _ z => False.elim z)
          cases f with
          | next =>
            obtain ⟨σ6, H6, S6, q6⟩ := hsp
            exact ⟨_, _, unsuite0 S6 ok, q6⟩
          | brk =>
            obtain ⟨σ6, H6, S6, q6⟩ := hsp
            exact ⟨_, _, unsuite0 S6 ok, q6⟩
          | cont =>
            obtain ⟨σ6, H6, S6, q6⟩ := hsp
            exact ⟨_, _, unsuite0 S6 ok, q6⟩
          | ret u =>
            obtain ⟨v6, σ6, H6, S6, r6, q6⟩ := hsp
            exact ⟨_, _, _, unsuite0 S6 ok, r6, q6⟩
        | false =>
          show wpAny _ X.A (handleBy (.ref a) X.env hds2) _ _ _
          exact ih (hno rfl)
      | @as x n c C i ts b₀ suite np pos' hds2 l2 hct hc hi hln hsu r ih =>
        intro w
        obtain ⟨C', b, hC', hb1, hyes, hno⟩ := w
        rw [hct] at hC'
        cases hC'
        refine wpAny_handleBy_cons (codeAny_handlers_test ?_) (by intro q; cases q)
        have LT : PySem.W.Looks (model X.prog X.w) h3 (typeOf (.ref a)) cls := fun A Q E s k q => wpAny_typeOf_ref (k _ _ he3) (by rw [hz3.1]; exact q)
        have LM := PySem.W.exm_one (M := model X.prog X.w) (J3.kIn) LT hb1
        have test : ∀ {Q : Value → Shared → Prop} {E : Value → Shared → Prop}, Q (.ref C) { s' with heap := h3 } → wpAny (model X.prog X.w) (X.A.mark (some (.ref a))) (eval (.Name x np) X.env) Q E { s' with heap := h3 } := fun {Q E} q => by
          obtain ⟨hg, hdbg, hm | ⟨hm, hv, hnn⟩⟩ := hc
          · exact ld_glob (X := X.suite a ((a, oe3) :: (X.pn ++ pins))) S3 hg hm q hdbg
          · exact ld_blt (X := X.suite a ((a, oe3) :: (X.pn ++ pins))) S3 hg hm hv q hnn hdbg
        refine test (LM.here ?_)
        cases b with
        | true =>
          obtain ⟨Bc, rfl, hts⟩ := hyes rfl a na
          refine codeAny_handlers_suite_as ?_
          refine HandSPX.lands_againZ fl3 fun h4 fl4 up4 => ?_
          have J4 : Inv X pins σ' H' { s' with heap := h4 } := J.landed nb fl4.1 ((up.trans up3).trans up4) os ag
          obtain ⟨oe4, vs4, he4, hz4, hd4⟩ := fl4.there
          have S4 := track_x J4 h0 hp he4 hz4 hd4 na nL
          refine store_ok (X := X.suite a (X.pn ++ pins)) (v := .ref a) S4 hN hi (.inl hln) rfl (fun s5 S5 => ?_) (.inr hln)
          refine wpAny_mono ((hsu a (X.pn ++ pins)).run [] s5 _ _ _ S5 hts) (fun f s6 hsp => ?_) (fun _ _ z => False.elim z)
          have end_ : ∀ {σ6 : L2.St} {H6 : Hp} {Q : Shared → Prop}, Inv (X.suite a (X.pn ++ pins)) [] σ6 H6 s6 → (∀ s7, Inv X pins (σ6.set i none) H6 s7 → Q s7) →
              wpAny (model X.prog X.w) X.A (do bindName X.env n .none; unbindBehindTheSuite X.env n pos') (fun _ s7 => Q s7) X.xe s6 := fun {σ6 H6 Q} S6 hq => gone_ok (unsuite0 S6 ok) hN hi hln hq
          cases f with
          | next =>
            obtain ⟨σ6, H6, S6, q6⟩ := hsp
            exact end_ S6 fun s7 J7 => ⟨_, _, J7, q6⟩
          | brk =>
            obtain ⟨σ6, H6, S6, q6⟩ := hsp
            exact end_ S6 fun s7 J7 => ⟨_, _, J7, q6⟩
          | cont =>
            obtain ⟨σ6, H6, S6, q6⟩ := hsp
            exact end_ S6 fun s7 J7 => ⟨_, _, J7, q6⟩
          | ret u =>
            obtain ⟨v6, σ6, H6, S6, r6, q6⟩ := hsp
            exact end_ S6 fun s7 J7 => ⟨_, _, _, J7, r6, q6⟩
        | false =>
          show wpAny _ X.A (handleBy (.ref a) X.env hds2) _ _ _
          exact ih (hno rfl)
    exact go hh w
  · cases f with
    | next =>
      obtain ⟨σ', H', J', q⟩ := hsp
      exact wpAny_execs_nil ⟨σ', H', J'.ofTry ok, q⟩
    | brk =>
      obtain ⟨σ', H', J', q⟩ := hsp
      exact ⟨σ', H', J'.ofTry ok, q⟩
    | cont =>
      obtain ⟨σ', H', J', q⟩ := hsp
      exact ⟨σ', H', J'.ofTry ok, q⟩
    | ret u =>
      obtain ⟨v, σ', H', J', r, q⟩ := hsp
      exact ⟨v, σ', H', J'.ofTry ok, r, q⟩
end
end LD
namespace LD
open PySem PySem.Spec PyProof.Rows L2
section
variable {X : Cx} {ct : Str → Option Addr} {sub : Str → Str → Option Bool} {cf : CfZ X.K ct sub} {P : Pg} {W : WX}
variable {a b e : Expr} {es : List Expr} {pos : Pos} {cc : C}
/-- except clauses, from the first on -/
def nest : S → List (Str × Option Nat × S) → S
  | b, [] => b
  | b, (c, i, h) :: r => nest (.try_ b c i h) r
theorem sem_nest (O : Ops X.K ct) (M : MO X.K ct) : ∀ (l : List (Str × Option Nat × S)) (b : S) (W : WX) (D : Ends) (σ : L2.St) (H : Hp), semS O M P W (nest b l) D σ H = semS O M P (wCh X.K ct (l.map fun q => (q.1, q.2.1, semS O M P W0 q.2.2)) W D) b D σ H
  | [], _, _, _, _, _ => rfl
  | (c, i, h) :: r, b, W, D, σ, H => sem_nest O M r (.try_ b c i h) W D σ H
abbrev JH (X : Cx) (cf : CfZ X.K ct sub) (P : Pg) (hds : List ExceptHandler) (l : List (Str × Option Nat × S)) : Prop := HdX X ct hds (l.map fun q => (q.1, q.2.1, semS (ops X.K ct sub cf) (mops X.K ct) P W0 q.2.2))
theorem h_nil : JH X cf P [] [] := .nil
theorem h_no {x c : Str} {Cc : Addr} {b₀ : Stmt} {suite : List Stmt} {np pos' : Pos} {hds : List ExceptHandler} {l : List (Str × Option Nat × S)} {s : S} (hct : ct c = some Cc) (hc : Names X x (.ref Cc))
    (hsu : ∀ (a : Addr) (pn : List (Addr × Obj)), JSs (X.suite a pn) cf P W0 (b₀ :: suite) s) (r : JH X cf P hds l) : JH X cf P (.ExceptHandler (some (.Name x np)) none (b₀ :: suite) pos' :: hds) ((c, none, s) :: l) := .no hct hc hsu r
theorem h_as (i : Nat) {x n c : Str} {Cc : Addr} {b₀ : Stmt} {suite : List Stmt} {np pos' : Pos} {hds : List ExceptHandler} {l : List (Str × Option Nat × S)} {s : S} (hct : ct c = some Cc) (hc : Names X x (.ref Cc))
    (hsu : ∀ (a : Addr) (pn : List (Addr × Obj)), JSs (X.suite a pn) cf P W0 (b₀ :: suite) s) (r : JH X cf P hds l) (hi : X.N[i]? = some n := by rfl) (hln : X.env.kindOf n = some .local := by rfl) :
    JH X cf P (.ExceptHandler (some (.Name x np)) (some n) (b₀ :: suite) pos' :: hds) ((c, some i, s) :: l) := .as hct hc hi hln hsu r
theorem s_try {body : List Stmt} {h₀ : ExceptHandler} {hds : List ExceptHandler} {l : List (Str × Option Nat × S)} {sb : S} (tk : Takes X W) (hN : X.N.Nodup)
    (hb : ∀ (W' : WX) (pn : List (Addr × Obj)) (xe : Value → Shared → Prop), Takes (X.tr pn xe) W' → PassesOwn (model X.prog X.w) X.A X.env xe → JSs (X.tr pn xe) cf P W' body sb)
    (hh : JH X cf P (h₀ :: hds) l) (hs : X.stack = X.env :: X.outer := by rfl) (hf : X.env.frame = some X.env.locals := by rfl) : JS X cf P W (.Try body (h₀ :: hds) [] [] pos) (nest sb l) := by
  refine ⟨fun pins s σ H D I h => ?_⟩
  have h' : semS (ops X.K ct sub cf) (mops X.K ct) P W (nest sb l) D σ H := h
  rw [sem_nest] at h'
  exact (ps_tryX (pos := pos) (tb := fun W' => semS (ops X.K ct sub cf) (mops X.K ct) P W' sb) hs hf hN tk hb hh).run pins s σ H D I h'
/-! ### raise -/
/-- an own class over ValueError, without a field -/
structure X0 (K : PySem.W.Frag) (C : Addr) : Prop where
  ex : PySem.W.excIn K C [.type "ValueError", .type "Exception", .type "BaseException", .type "object"] "ValueError.__new__" = true
  kp : PySem.W.keepIn K (.ref C) = true
  sb : PySem.W.subIn K (.ref C) (.type "BaseException") = some true
  ty : PySem.W.typeIn K (.ref C) = some (.type "type")
theorem s_raise0 {x m c : Str} {Cc : Addr} {j : Nat} {p p2 cpos : Pos} (hc : X.calm = true) (tk : Takes X W) (hct : ct c = some Cc) (k : X0 X.K Cc) (gC : X.mg x = some (.ref Cc)) (hg : Gl X x := by rfl) (hdb : (x == ("__debug__" : Str)) = false := by decide) :
    JS X cf P W (.Raise (some (.Call (.Name x p) [.Constant (.str m) j p2] [] cpos)) none pos) (.raise0 c) := by
  refine ⟨fun pins s σ H D I h => ?_⟩
  obtain ⟨C', h1, h2⟩ : ∃ C', ct c = some C' ∧ W (.ref C') none σ H := h
  rw [hct] at h1
  cases h1
  exact (ps_raise (pos := pos) hc tk (pmk_own (p := p) (p2 := p2) (pos := cpos) (m := m) (j := j) PySem.F.excBase_ValueError k.ex gC k.kp (raises_own k.sb k.ty) hg hdb)).run pins s σ H D I h2
theorem PE.wide {te : TE} (h : PE X a te) : PE X a (fun σ H Q => ∃ R : VK, te σ H R ∧ ∀ v H1, R v H1 → Q v H1) := by
  refine ⟨fun pins s σ H Q I ⟨R, hR, k⟩ => ?_⟩
  exact thn (h.run pins s σ H R I hR) fun u s1 ⟨v, H1, I1, r, q⟩ => ⟨v, H1, I1, r, k v H1 q⟩
/-- what the __init__ of a class with one field keeps -/
def spInit (K : PySem.W.Frag) (f : Str) : Sp := fun vs H Q _ => ∃ (a C : Addr) (v : V), vs = [.ref a, v] ∧ OexC K C ∧ PySem.W.findIn K (.ref C) f = some none ∧ H a = some (exo a C none) ∧ ∀ dx, H dx = none → dx ≠ a → Q .non (upd (upd H dx (exd dx [(f, v)])) a (exo a C (some dx)))
structure X1 (K : PySem.W.Frag) (C fI : Addr) (f : Str) : Prop where
  ox : OexC K C
  ini : PySem.W.findIn K (.ref C) "__init__" = some (some (.ref fI))
  ti : PySem.W.typeIn K (.ref fI) = some (.type "function")
  no : PySem.W.findIn K (.ref C) f = some none
theorem del_upd {H : Hp} {a dx : Addr} {C : Addr} {f : Str} {v : V} (na : H a = none) (ne : dx ≠ a) : upd (del (upd (upd (upd H a (exo a C none)) dx (exd dx [(f, v)])) a (exo a C (some dx))) a) dx (.xd [(f, v)]) = upd H dx (.xd [(f, v)]) := by
  funext q
  by_cases h1 : q = dx
  · subst h1
    rw [upd_same, upd_same]
  · rw [upd_ne h1, upd_ne h1]
    by_cases h2 : q = a
    · subst h2
      rw [del_same, na]
    · rw [del_ne h2, upd_ne h2, upd_ne h1, upd_ne h2]
def IniOk (Pr : Program) (w : World) (K : PySem.W.Frag) (mg : Str → Option Value) (base : Heap) (k : Nat) (fI : Addr) (f : Str) : Prop := ∃ fd ps, FnOk Pr w K mg base (L2.CX Pr w) k fI fd ps (spInit K f) ∧ Binds K fd ps []
theorem s_raise1 {x c f : Str} {Cc fI : Addr} {k : Nat} {p cpos : Pos} (hc : X.calm = true) (tk : Takes X W) (hct : ct c = some Cc) (k1 : X1 X.K Cc fI f) (ini : IniOk X.prog X.w X.K X.mg X.base k fI f)
    (hr : Room (k + 1) X.A) (gC : X.mg x = some (.ref Cc)) (ha : JC X cf P W a cc) (hg : Gl X x := by rfl) (hdb : (x == ("__debug__" : Str)) = false := by decide)
    (he : starEach [a] X.env = (false, eval a X.env) :: starEach [] X.env := by rfl) (hpl : (backTo cpos (starEach [] X.env)).any (·.1) = false := by rfl) :
    JS X cf P W (.Raise (some (.Call (.Name x p) [a] [] cpos)) none pos) (.raise1 c f cc) := by
  obtain ⟨fd, ps, F, hb⟩ := ini
  refine ⟨fun pins s σ H D I h => ?_⟩
  have h' : semC (ops X.K ct sub cf) P W cc σ H fun v H1 => ∃ C, ct c = some C ∧ ∀ d, H1 d = none → W (.ref C) (some d) σ (upd H1 d (.xd [(f, v)])) := h
  refine (ps_raise (pos := pos) hc tk (pmk_oex (p := p) (pos := cpos) (dvs := []) (ds := []) k1.ox k1.ini k1.ti F hr hb .nil (passes_call tk fun _ _ _ _ z => z.elim) hg gC (pa_cons (PE.wide ha) pa_nil he) hdb he hpl)).run pins s σ H D I ?_
  refine ⟨_, h', fun v H1 hq => ⟨by simp, fun q hqn => ?_⟩⟩
  obtain ⟨C', h1, h2⟩ := hq
  rw [hct] at h1
  cases h1
  refine ⟨q, Cc, v, rfl, k1.ox, k1.no, upd_same, fun dx hdx ne => ⟨rfl, dx, [(f, v)], upd_same, ?_, ?_, ?_⟩⟩
  · rw [upd_ne ne, upd_same]
  · rw [upd_ne ne] at hdx
    exact hdx
  · rw [del_upd hqn ne]
    rw [upd_ne ne] at hdx
    exact h2 dx hdx
end
section
variable {Pr : Program} {w : World} {K : PySem.W.Frag} {mg : Str → Option Value} {base : Heap}
/-- def __init__(self, v): self.f = v -/
theorem init_ok {qual sn vn f : Str} {st : Stmt} {fa : Addr} {fd : FuncData} {k : Nat} {p1 p2 p' pos : Pos} {x : Str} (F : Fun K x qual st fa fd) (S : FnScope [sn, vn] [sn, vn] (defScope st)) (hbd : defBody st = [.Assign [.Attribute (.Name sn p1) f p'] (.Name vn p2) pos])
    (hv1 : Vis (defScope st) sn) (hv2 : Vis (defScope st) vn) (hd1 : (sn == ("__debug__" : Str)) = false) (hd2 : (vn == ("__debug__" : Str)) = false) (hc1 : (sn == ("__classdict__" : Str)) = false) (hc2 : (vn == ("__classdict__" : Str)) = false)
    (hs : ∀ env, swapsWith (.Name vn p2) (some (.Attribute (.Name sn p1) f p')) pos.line env = pure false) :
    FnOk Pr w K mg base (L2.CX Pr w) (k + 1) fa fd [sn, vn] (spInit K f) := by
  refine F.okX S (fun vs H Q E h => ?_) (fun cdv A outer s H vs Q E hr h => ⟨tOst K f (tVar 0) (tVar 1), ?_, ?_⟩)
  · obtain ⟨a, C, v, rfl, _⟩ := h
    rfl
  · rw [hbd]
    exact pss_one (ps_ost (pe_var (i := 0) rfl hv1 hd1 hc1) (pe_var (i := 1) rfl hv2 hd2 hc2) (hs _))
  · obtain ⟨a, C, v, rfl, ho, hno, ha, q⟩ := h
    exact ⟨v, rfl, .ref a, rfl, a, C, rfl, ho, hno, .inl ⟨ha, fun dx n ne => q dx n ne⟩⟩
end
end LD
namespace LD
open PySem PySem.Spec PyProof.Rows L2
/-! ### try, raise: equations to compute with -/
section
variable {P : Pg} {mf : MOp → D → List D → Option (D × D)} {n : Nat} {α β : Env} {sx : Str → Str → Option Bool} {c : Str} {h : Env → RS}
@[simp] theorem rs_try (b : S) (c : Str) (i : Option Nat) (h : S) : runS P mf n (.try_ b c i h) α = tryR P.sx c i (runS P mf n h) (runS P mf n b α) := by simp only [runS]
@[simp] theorem rs_raise0 (c : Str) : runS P mf n (.raise0 c) α = if P.cs.contains c = true then .exc (.ins true c [] []) α else .bad := by simp only [runS]
@[simp] theorem rs_raise1 (c f : Str) (a : C) : runS P mf n (.raise1 c f a) α = if P.cs.contains c = true then (evC P a α).on fun d α => .exc (.ins true c [f] [d]) α else .bad := by simp only [runS]
@[simp] theorem tryR_nx (i : Option Nat) : tryR sx c i h (.nx β) = .nx β := id rfl
@[simp] theorem tryR_ret (i : Option Nat) (d : D) : tryR sx c i h (.ret d β) = .ret d β := id rfl
@[simp] theorem tryR_brk (i : Option Nat) : tryR sx c i h (.brk β) = .brk β := id rfl
@[simp] theorem tryR_ct (i : Option Nat) : tryR sx c i h (.ct β) = .ct β := id rfl
@[simp] theorem tryR_some (j : Nat) (m : Bool) (b : Str) (fs : List Str) (ds : List D) : tryR sx c (some j) h (.exc (.ins m b fs ds) β) = match sx b c with
    | some true => if j < β.length then outS (some j) (h (β.set j (some (.exn b fs (D.freezeL ds))))) else .bad
    | some false => .exc (.ins m b fs ds) β
    | none => .bad := id rfl
@[simp] theorem tryR_none (m : Bool) (b : Str) (fs : List Str) (ds : List D) : tryR sx c none h (.exc (.ins m b fs ds) β) = match sx b c with
    | some true => outS none (h β)
    | some false => .exc (.ins m b fs ds) β
    | none => .bad := id rfl
@[simp] theorem outS_nx (j : Nat) : outS (some j) (.nx β) = .nx (β.set j none) := id rfl
@[simp] theorem outS_ret (j : Nat) (d : D) : outS (some j) (.ret d β) = .ret d (β.set j none) := id rfl
@[simp] theorem outS_brk (j : Nat) : outS (some j) (.brk β) = .brk (β.set j none) := id rfl
@[simp] theorem outS_ct (j : Nat) : outS (some j) (.ct β) = .ct (β.set j none) := id rfl
@[simp] theorem outN_nx : outS none (.nx β) = .nx β := id rfl
@[simp] theorem outN_ret (d : D) : outS none (.ret d β) = .ret d β := id rfl
@[simp] theorem outN_brk : outS none (.brk β) = .brk β := id rfl
@[simp] theorem outN_ct : outS none (.ct β) = .ct β := id rfl
def tupS (o : Option (Option D)) (f : List D → RS) : RS := match o with
  | some (some (.tup l)) => f l
  | _ => .bad
@[simp] theorem tupS_some (l : List D) (f : List D → RS) : tupS (some (some (.tup l))) f = f l := id rfl
@[simp] theorem rs_mutT (ty : Ty) (i j : Nat) (o : MOp) (es : EL) : runS P mf n (.mutT ty i j o es) α = tupS α[i]? fun l => optS l[j]? fun x => if tyD ty x = true then R1.onS α (evL P es α) (fun ds => optS (mf o x ds) fun t => .nx (α.set i (some (.tup (l.set j t.1))))) else .bad := by
  simp only [runS]
  rcases α[i]? with _ | _ | d
  · rfl
  · rfl
  · cases d <;> try rfl
    rename_i l
    simp only [tupS]
    rcases l[j]? with _ | x
    · rfl
    · simp only [optS]
      split
      · rcases evL P es α with ds | x | _
        · simp only [R1.onS]
          rcases mf o x ds with _ | q <;> rfl
        · rfl
        · rfl
      · rfl
end
end LD
namespace LDK
open PySem PySem.Spec PyProof.Rows L2
/-! ### max, min with default= -/
section
variable {prog : Program} {w : World} {A : Around} {E : Value → Shared → Prop} {s : Shared}
theorem fn_kw_tree {id : String} {f : Builtin} {us : List Value} {kw : List (Str × Value)} {Q : Value → Shared → Prop} (hk : builtinKind id = none) (hp : plainId id = true) (hf : entryFor table id = some f) (ok : argsOk id ⟨us, kw⟩)
    (run : wpAny (model prog w) A.in1 (f ⟨us, kw⟩) (fun fin st => match fin with
      | .done r => (match (Except.ok r : Result) with | .ok (.ret v) => Q v st | .ok _ => False | .error e => E e st)
      | .again c => c.quiet = true ∧ codeAny (model prog w) A c (fun r st => match r with | .ok (.ret v) => Q v st | .ok _ => False | .error e => E e st) st) E s) :
    wpAny (model prog w) A (call (.builtin id) us kw) Q E s := by
  refine wpAny_call (codeAny_call_builtin hp hf ?_)
  simp only [checkBuiltinCall, hk]
  cases sg : Manifest.signature? id with
  | none => exact wpAny_pure run
  | some sig =>
    have ok2 : Bind.checkArgs id sig ⟨us, kw⟩ = pure () := by simpa only [argsOk, sg] using ok
    simp only [ok2]
    exact wpAny_pure run
end
section
variable {prog : Program} {w : World} {A : Around} {R : Result → Shared → Prop} {I : Addr} {fp wr : List Addr} {n : Nat} {P : Nat → Value → Prop} {St : Nat → Heap → Prop}

theorem max_loop_kw (kw : List (Str × Value)) (wk : Walks prog w A.in1 I fp wr n P St) (bt : Nat → Nat → Bool) (gt : CmpOf prog w A.in1 .Gt P bt) (best : Addr) (off : best ∉ fp) :
    ∀ (k j : Nat) (st : Shared) (top : Value) (ep : Nat), n - (j + 1) = k → j + 1 ≤ n → St (j + 1) st.heap → P (argBest bt j) top →
    st.heap.get? best = some { cls := .type "list", dict := none, data := .seq #[top, top] ep, slots := #[] } →
    (∀ v h' tk, P (argBest bt (n - 1)) v → (∀ b o, b ∉ wr → b ≠ best → st.heap.get? b = some o → h'.get? b = some o) → R (.ok (.ret v)) { st with heap := h', toks := tk }) →
    codeAny (model prog w) A (.builtin "max.loop" ⟨[.ref I, .none, .ref best], kw⟩) R st := by
  have offw : best ∉ wr := fun z => off (wk.sub _ z)
  have nm : (toString "max" ++ toString ".loop" : String) = "max.loop" := by decide
  intro k
  induction k with
  | zero =>
    intro j st top ep hk hj hst hp hb hR
    have last : j + 1 = n := by omega
    refine codeAny_builtin F.entry_max_loop ?_
    rw [Around.under_plainId F.plain_max_loop _]
    show wpAny _ A.in1 (seqItems? (.ref best) >>= _) _ _ st
    refine wpAny_bind (wpAny_seqItems hb rfl ?_)
    show wpAny _ A.in1 (tryCatch (pyNext (.ref I)) _ >>= _) _ _ st
    refine wpAny_bind (wpAny_tryCatch (wk.done st _ _ (last ▸ hst) fun h1 tk same => ?_))
    have hb1 := same best _ offw hb
    show wpAny _ A.in1 (updateSeq best (fun _ => #[]) >>= _) _ _ _
    refine wpAny_bind ?_
    refine wpAny_updateSeq hb1 rfl (wpAny_bind (wpAny_letGo (wpAny_pure ?_)))
    exact hR top _ tk (by rw [← last]; exact hp) fun b o n1 n2 e => (Heap.get?_update_other _ _ (Ne.symm n2)).trans (same b o n1 e)
  | succ k ih =>
    intro j st top ep hk hj hst hp hb hR
    have more : j + 1 < n := by omega
    refine codeAny_builtin F.entry_max_loop ?_
    rw [Around.under_plainId F.plain_max_loop _]
    show wpAny _ A.in1 (seqItems? (.ref best) >>= _) _ _ st
    refine wpAny_bind (wpAny_seqItems hb rfl ?_)
    show wpAny _ A.in1 (tryCatch (pyNext (.ref I)) _ >>= _) _ _ st
    refine wpAny_bind (wpAny_tryCatch (wk.item (j + 1) st _ _ more hst fun v h1 tk hv hst1 same => ?_))
    have hb1 := same best _ offw hb
    show wpAny _ A.in1 (tryCatch (holding [v, v] (richCompare .Gt v top >>= _)) _ >>= _) _ _ _
    refine wpAny_bind (wpAny_tryCatch (wpAny_holding (wpAny_bind (gt (j + 1) (argBest bt j) v top _ _ _ hv hp ?_))))
    refine wpAny_bind (wpAny_holding (wpAny_truthy_bool ?_))
    refine wpAny_bind (wpAny_letGo (wpAny_pure ?_))
    cases hyes : bt (j + 1) (argBest bt j) with
    | true =>
      simp only [if_true]
      refine wpAny_bind ?_
      refine wpAny_updateSeq hb1 rfl (wpAny_bind (wpAny_letGo ?_))
      rw [nm]
      refine wpAny_pure ⟨plainId_quiet F.plain_max_loop _, ih (j + 1) _ v _ (by omega) more (wk.frame _ _ _ hst1 fun b hbf o e => ?_) (by simp only [argBest, hyes, if_true]; exact hv) (Heap.get?_update_self _ hb1 rfl) fun v2 h2 tk2 hv2 same2 => ?_⟩
      · exact (Heap.get?_update_other _ _ (fun z : best = b => off (by rw [z]; exact hbf))).trans e
      · exact hR v2 h2 tk2 hv2 fun b o n1 n2 e => same2 b o n1 n2 ((Heap.get?_update_other _ _ (Ne.symm n2)).trans (same b o n1 e))
    | false =>
      simp only [Bool.false_eq_true, if_false]
      refine wpAny_bind (wpAny_letGo ?_)
      rw [nm]
      refine wpAny_pure ⟨plainId_quiet F.plain_max_loop _, ih (j + 1) _ top ep (by omega) more hst1 (by simp only [argBest, hyes, Bool.false_eq_true, if_false]; exact hp) hb1 fun v2 h2 tk2 hv2 same2 => ?_⟩
      exact hR v2 h2 tk2 hv2 fun b o n1 n2 e => same2 b o n1 n2 (same b o n1 e)
theorem max_first_kw (kw : List (Str × Value)) (wk : Walks prog w A.in1 I fp wr n P St) (bt : Nat → Nat → Bool) (gt : CmpOf prog w A.in1 .Gt P bt) (best : Addr) (off : best ∉ fp) (some1 : 0 < n) {st : Shared} {ep : Nat} (hst : St 0 st.heap)
    (hb : st.heap.get? best = some { cls := .type "list", dict := none, data := .seq #[] ep, slots := #[] })
    (hR : ∀ v h' tk, P (argBest bt (n - 1)) v → (∀ b o, b ∉ wr → b ≠ best → st.heap.get? b = some o → h'.get? b = some o) → R (.ok (.ret v)) { st with heap := h', toks := tk }) :
    codeAny (model prog w) A (.builtin "max.loop" ⟨[.ref I, .none, .ref best], kw⟩) R st := by
  have offw : best ∉ wr := fun z => off (wk.sub _ z)
  have nm : (toString "max" ++ toString ".loop" : String) = "max.loop" := by decide
  refine codeAny_builtin F.entry_max_loop ?_
  rw [Around.under_plainId F.plain_max_loop _]
  show wpAny _ A.in1 (seqItems? (.ref best) >>= _) _ _ st
  refine wpAny_bind (wpAny_seqItems hb rfl ?_)
  show wpAny _ A.in1 (tryCatch (pyNext (.ref I)) _ >>= _) _ _ st
  refine wpAny_bind (wpAny_tryCatch (wk.item 0 st _ _ some1 hst fun v h1 tk hv hst1 same => ?_))
  have hb1 := same best _ offw hb
  show wpAny _ A.in1 (updateSeq best (fun _ => #[v, v]) >>= _) _ _ _
  refine wpAny_bind ?_
  refine wpAny_updateSeq hb1 rfl ?_
  rw [nm]
  refine wpAny_pure ⟨plainId_quiet F.plain_max_loop _, max_loop_kw kw wk bt gt best off _ 0 _ v _ rfl some1 (wk.frame _ _ _ hst1 fun b hbf o e => ?_) hv (Heap.get?_update_self _ hb1 rfl) fun v2 h2 tk2 hv2 same2 => ?_⟩
  · exact (Heap.get?_update_other _ _ (fun z : best = b => off (by rw [z]; exact hbf))).trans e
  · exact hR v2 h2 tk2 hv2 fun b o n1 n2 e => same2 b o n1 n2 ((Heap.get?_update_other _ _ (Ne.symm n2)).trans (same b o n1 e))
/-- nothing is walked: what the keyword says is told -/
theorem max_none_kw (d : Value) (wk : Walks prog w A.in1 I fp wr n P St) (best : Addr) (off : best ∉ fp) (no : n = 0) {st : Shared} {ep : Nat} (hst : St 0 st.heap)
    (hb : st.heap.get? best = some { cls := .type "list", dict := none, data := .seq #[] ep, slots := #[] })
    (hR : ∀ h' tk, (∀ b o, b ∉ wr → b ≠ best → st.heap.get? b = some o → h'.get? b = some o) → R (.ok (.ret d)) { st with heap := h', toks := tk }) :
    codeAny (model prog w) A (.builtin "max.loop" ⟨[.ref I, .none, .ref best], [(Str.ofString "default", d)]⟩) R st := by
  have offw : best ∉ wr := fun z => off (wk.sub _ z)
  refine codeAny_builtin F.entry_max_loop ?_
  rw [Around.under_plainId F.plain_max_loop _]
  show wpAny _ A.in1 (seqItems? (.ref best) >>= _) _ _ st
  refine wpAny_bind (wpAny_seqItems hb rfl ?_)
  show wpAny _ A.in1 (tryCatch (pyNext (.ref I)) _ >>= _) _ _ st
  refine wpAny_bind (wpAny_tryCatch (wk.done st _ _ (no ▸ hst) fun h1 tk same => ?_))
  refine wpAny_bind (wpAny_rule ?_)
  exact wpAny_pure (hR h1 tk fun b o n1 _ e => same b o n1 e)

theorem min_loop_kw (kw : List (Str × Value)) (wk : Walks prog w A.in1 I fp wr n P St) (bt : Nat → Nat → Bool) (gt : CmpOf prog w A.in1 .Lt P bt) (best : Addr) (off : best ∉ fp) :
    ∀ (k j : Nat) (st : Shared) (top : Value) (ep : Nat), n - (j + 1) = k → j + 1 ≤ n → St (j + 1) st.heap → P (argBest bt j) top →
    st.heap.get? best = some { cls := .type "list", dict := none, data := .seq #[top, top] ep, slots := #[] } →
    (∀ v h' tk, P (argBest bt (n - 1)) v → (∀ b o, b ∉ wr → b ≠ best → st.heap.get? b = some o → h'.get? b = some o) → R (.ok (.ret v)) { st with heap := h', toks := tk }) →
    codeAny (model prog w) A (.builtin "min.loop" ⟨[.ref I, .none, .ref best], kw⟩) R st := by
  have offw : best ∉ wr := fun z => off (wk.sub _ z)
  have nm : (toString "min" ++ toString ".loop" : String) = "min.loop" := by decide
  intro k
  induction k with
  | zero =>
    intro j st top ep hk hj hst hp hb hR
    have last : j + 1 = n := by omega
    refine codeAny_builtin F.entry_min_loop ?_
    rw [Around.under_plainId F.plain_min_loop _]
    show wpAny _ A.in1 (seqItems? (.ref best) >>= _) _ _ st
    refine wpAny_bind (wpAny_seqItems hb rfl ?_)
    show wpAny _ A.in1 (tryCatch (pyNext (.ref I)) _ >>= _) _ _ st
    refine wpAny_bind (wpAny_tryCatch (wk.done st _ _ (last ▸ hst) fun h1 tk same => ?_))
    have hb1 := same best _ offw hb
    show wpAny _ A.in1 (updateSeq best (fun _ => #[]) >>= _) _ _ _
    refine wpAny_bind ?_
    refine wpAny_updateSeq hb1 rfl (wpAny_bind (wpAny_letGo (wpAny_pure ?_)))
    exact hR top _ tk (by rw [← last]; exact hp) fun b o n1 n2 e => (Heap.get?_update_other _ _ (Ne.symm n2)).trans (same b o n1 e)
  | succ k ih =>
    intro j st top ep hk hj hst hp hb hR
    have more : j + 1 < n := by omega
    refine codeAny_builtin F.entry_min_loop ?_
    rw [Around.under_plainId F.plain_min_loop _]
    show wpAny _ A.in1 (seqItems? (.ref best) >>= _) _ _ st
    refine wpAny_bind (wpAny_seqItems hb rfl ?_)
    show wpAny _ A.in1 (tryCatch (pyNext (.ref I)) _ >>= _) _ _ st
    refine wpAny_bind (wpAny_tryCatch (wk.item (j + 1) st _ _ more hst fun v h1 tk hv hst1 same => ?_))
    have hb1 := same best _ offw hb
    show wpAny _ A.in1 (tryCatch (holding [v, v] (richCompare .Lt v top >>= _)) _ >>= _) _ _ _
    refine wpAny_bind (wpAny_tryCatch (wpAny_holding (wpAny_bind (gt (j + 1) (argBest bt j) v top _ _ _ hv hp ?_))))
    refine wpAny_bind (wpAny_holding (wpAny_truthy_bool ?_))
    refine wpAny_bind (wpAny_letGo (wpAny_pure ?_))
    cases hyes : bt (j + 1) (argBest bt j) with
    | true =>
      simp only [if_true]
      refine wpAny_bind ?_
      refine wpAny_updateSeq hb1 rfl (wpAny_bind (wpAny_letGo ?_))
      rw [nm]
      refine wpAny_pure ⟨plainId_quiet F.plain_min_loop _, ih (j + 1) _ v _ (by omega) more (wk.frame _ _ _ hst1 fun b hbf o e => ?_) (by simp only [argBest, hyes, if_true]; exact hv) (Heap.get?_update_self _ hb1 rfl) fun v2 h2 tk2 hv2 same2 => ?_⟩
      · exact (Heap.get?_update_other _ _ (fun z : best = b => off (by rw [z]; exact hbf))).trans e
      · exact hR v2 h2 tk2 hv2 fun b o n1 n2 e => same2 b o n1 n2 ((Heap.get?_update_other _ _ (Ne.symm n2)).trans (same b o n1 e))
    | false =>
      simp only [Bool.false_eq_true, if_false]
      refine wpAny_bind (wpAny_letGo ?_)
      rw [nm]
      refine wpAny_pure ⟨plainId_quiet F.plain_min_loop _, ih (j + 1) _ top ep (by omega) more hst1 (by simp only [argBest, hyes, Bool.false_eq_true, if_false]; exact hp) hb1 fun v2 h2 tk2 hv2 same2 => ?_⟩
      exact hR v2 h2 tk2 hv2 fun b o n1 n2 e => same2 b o n1 n2 (same b o n1 e)
theorem min_first_kw (kw : List (Str × Value)) (wk : Walks prog w A.in1 I fp wr n P St) (bt : Nat → Nat → Bool) (gt : CmpOf prog w A.in1 .Lt P bt) (best : Addr) (off : best ∉ fp) (some1 : 0 < n) {st : Shared} {ep : Nat} (hst : St 0 st.heap)
    (hb : st.heap.get? best = some { cls := .type "list", dict := none, data := .seq #[] ep, slots := #[] })
    (hR : ∀ v h' tk, P (argBest bt (n - 1)) v → (∀ b o, b ∉ wr → b ≠ best → st.heap.get? b = some o → h'.get? b = some o) → R (.ok (.ret v)) { st with heap := h', toks := tk }) :
    codeAny (model prog w) A (.builtin "min.loop" ⟨[.ref I, .none, .ref best], kw⟩) R st := by
  have offw : best ∉ wr := fun z => off (wk.sub _ z)
  have nm : (toString "min" ++ toString ".loop" : String) = "min.loop" := by decide
  refine codeAny_builtin F.entry_min_loop ?_
  rw [Around.under_plainId F.plain_min_loop _]
  show wpAny _ A.in1 (seqItems? (.ref best) >>= _) _ _ st
  refine wpAny_bind (wpAny_seqItems hb rfl ?_)
  show wpAny _ A.in1 (tryCatch (pyNext (.ref I)) _ >>= _) _ _ st
  refine wpAny_bind (wpAny_tryCatch (wk.item 0 st _ _ some1 hst fun v h1 tk hv hst1 same => ?_))
  have hb1 := same best _ offw hb
  show wpAny _ A.in1 (updateSeq best (fun _ => #[v, v]) >>= _) _ _ _
  refine wpAny_bind ?_
  refine wpAny_updateSeq hb1 rfl ?_
  rw [nm]
  refine wpAny_pure ⟨plainId_quiet F.plain_min_loop _, min_loop_kw kw wk bt gt best off _ 0 _ v _ rfl some1 (wk.frame _ _ _ hst1 fun b hbf o e => ?_) hv (Heap.get?_update_self _ hb1 rfl) fun v2 h2 tk2 hv2 same2 => ?_⟩
  · exact (Heap.get?_update_other _ _ (fun z : best = b => off (by rw [z]; exact hbf))).trans e
  · exact hR v2 h2 tk2 hv2 fun b o n1 n2 e => same2 b o n1 n2 ((Heap.get?_update_other _ _ (Ne.symm n2)).trans (same b o n1 e))
/-- nothing is walked: what the keyword says is told -/
theorem min_none_kw (d : Value) (wk : Walks prog w A.in1 I fp wr n P St) (best : Addr) (off : best ∉ fp) (no : n = 0) {st : Shared} {ep : Nat} (hst : St 0 st.heap)
    (hb : st.heap.get? best = some { cls := .type "list", dict := none, data := .seq #[] ep, slots := #[] })
    (hR : ∀ h' tk, (∀ b o, b ∉ wr → b ≠ best → st.heap.get? b = some o → h'.get? b = some o) → R (.ok (.ret d)) { st with heap := h', toks := tk }) :
    codeAny (model prog w) A (.builtin "min.loop" ⟨[.ref I, .none, .ref best], [(Str.ofString "default", d)]⟩) R st := by
  have offw : best ∉ wr := fun z => off (wk.sub _ z)
  refine codeAny_builtin F.entry_min_loop ?_
  rw [Around.under_plainId F.plain_min_loop _]
  show wpAny _ A.in1 (seqItems? (.ref best) >>= _) _ _ st
  refine wpAny_bind (wpAny_seqItems hb rfl ?_)
  show wpAny _ A.in1 (tryCatch (pyNext (.ref I)) _ >>= _) _ _ st
  refine wpAny_bind (wpAny_tryCatch (wk.done st _ _ (no ▸ hst) fun h1 tk same => ?_))
  refine wpAny_bind (wpAny_rule ?_)
  exact wpAny_pure (hR h1 tk fun b o n1 _ e => same b o n1 e)
end
section
variable {prog : Program} {w : World} {A : Around} {E : Value → Shared → Prop} {s : Shared}

theorem args_max_d (a d : Value) : argsOk "max" ⟨[a], [(Str.ofString "default", d)]⟩ := by unfold argsOk; kernel_rfl
theorem max_walk_kw {x d : Value} {Q : Value → Shared → Prop}
    (h : wpAny (model prog w) A.in1 (pyIter x) (fun it st => ∃ I fp wr n P St bt, it = .ref I ∧ Walks prog w A.in1 I fp wr n P St ∧ St 0 st.heap ∧ (∀ b ∈ fp, b < st.heap.objs.size) ∧ CmpOf prog w A.in1 .Gt P bt ∧
      (n = 0 → ∀ h' tk, (∀ b o, b ∉ wr → st.heap.get? b = some o → h'.get? b = some o) → Q d { st with heap := h', toks := tk }) ∧
      (0 < n → ∀ v h' tk, P (argBest bt (n - 1)) v → (∀ b o, b ∉ wr → st.heap.get? b = some o → h'.get? b = some o) → Q v { st with heap := h', toks := tk })) E s) :
    wpAny (model prog w) A (call (.builtin "max") [x] [(Str.ofString "default", d)]) Q E s := by
  have nm : (toString "max" ++ toString ".loop" : String) = "max.loop" := by decide
  refine fn_kw_tree F.kind_max F.plain_max F.entry_max (args_max_d _ _) ?_
  show wpAny _ A.in1 (Builtin.Builtins.bindParams "max" ["key", "default"] 0 ⟨[], [(Str.ofString "default", d)]⟩ >>= _) _ _ s
  have bp : Builtin.Builtins.bindParams "max" ["key", "default"] 0 ⟨[], [(Str.ofString "default", d)]⟩ = pure [none, some d] := by rfl
  refine wpAny_bind (wpAny_of_eq bp ?_)
  refine wpAny_bind (wpAny_pure ?_)
  refine wpAny_bind (wpAny_mono h (fun it st h2 => ?_) fun _ _ e => e)
  obtain ⟨I, fp, wr, n, P, St, bt, rfl, wk, hst, hfp, gt, q0, q1⟩ := h2
  refine wpAny_bind (wpAny_newObj_type ?_)
  have off : st.heap.objs.size ∉ fp := fun z => Nat.lt_irrefl _ (hfp _ z)
  rw [nm]
  by_cases no : n = 0
  · refine wpAny_pure ⟨plainId_quiet F.plain_max_loop _, max_none_kw d wk st.heap.objs.size off no (wk.frame _ _ _ hst fun b _ o e => Heap.get?_push_of_some _ e) (Heap.get?_push_size _ rfl) fun h' tk same => ?_⟩
    exact q0 no h' tk fun b o n1 e => same b o n1 (Nat.ne_of_lt (Heap.lt_size e)) (Heap.get?_push_of_some _ e)
  · refine wpAny_pure ⟨plainId_quiet F.plain_max_loop _, max_first_kw _ wk bt gt st.heap.objs.size off (by omega) (wk.frame _ _ _ hst fun b _ o e => Heap.get?_push_of_some _ e) (Heap.get?_push_size _ rfl) fun v h' tk hv same => ?_⟩
    exact q1 (by omega) v h' tk hv fun b o n1 e => same b o n1 (Nat.ne_of_lt (Heap.lt_size e)) (Heap.get?_push_of_some _ e)

theorem args_min_d (a d : Value) : argsOk "min" ⟨[a], [(Str.ofString "default", d)]⟩ := by unfold argsOk; kernel_rfl
theorem min_walk_kw {x d : Value} {Q : Value → Shared → Prop}
    (h : wpAny (model prog w) A.in1 (pyIter x) (fun it st => ∃ I fp wr n P St bt, it = .ref I ∧ Walks prog w A.in1 I fp wr n P St ∧ St 0 st.heap ∧ (∀ b ∈ fp, b < st.heap.objs.size) ∧ CmpOf prog w A.in1 .Lt P bt ∧
      (n = 0 → ∀ h' tk, (∀ b o, b ∉ wr → st.heap.get? b = some o → h'.get? b = some o) → Q d { st with heap := h', toks := tk }) ∧
      (0 < n → ∀ v h' tk, P (argBest bt (n - 1)) v → (∀ b o, b ∉ wr → st.heap.get? b = some o → h'.get? b = some o) → Q v { st with heap := h', toks := tk })) E s) :
    wpAny (model prog w) A (call (.builtin "min") [x] [(Str.ofString "default", d)]) Q E s := by
  have nm : (toString "min" ++ toString ".loop" : String) = "min.loop" := by decide
  refine fn_kw_tree F.kind_min F.plain_min F.entry_min (args_min_d _ _) ?_
  show wpAny _ A.in1 (Builtin.Builtins.bindParams "min" ["key", "default"] 0 ⟨[], [(Str.ofString "default", d)]⟩ >>= _) _ _ s
  have bp : Builtin.Builtins.bindParams "min" ["key", "default"] 0 ⟨[], [(Str.ofString "default", d)]⟩ = pure [none, some d] := by rfl
  refine wpAny_bind (wpAny_of_eq bp ?_)
  refine wpAny_bind (wpAny_pure ?_)
  refine wpAny_bind (wpAny_mono h (fun it st h2 => ?_) fun _ _ e => e)
  obtain ⟨I, fp, wr, n, P, St, bt, rfl, wk, hst, hfp, gt, q0, q1⟩ := h2
  refine wpAny_bind (wpAny_newObj_type ?_)
  have off : st.heap.objs.size ∉ fp := fun z => Nat.lt_irrefl _ (hfp _ z)
  rw [nm]
  by_cases no : n = 0
  · refine wpAny_pure ⟨plainId_quiet F.plain_min_loop _, min_none_kw d wk st.heap.objs.size off no (wk.frame _ _ _ hst fun b _ o e => Heap.get?_push_of_some _ e) (Heap.get?_push_size _ rfl) fun h' tk same => ?_⟩
    exact q0 no h' tk fun b o n1 e => same b o n1 (Nat.ne_of_lt (Heap.lt_size e)) (Heap.get?_push_of_some _ e)
  · refine wpAny_pure ⟨plainId_quiet F.plain_min_loop _, min_first_kw _ wk bt gt st.heap.objs.size off (by omega) (wk.frame _ _ _ hst fun b _ o e => Heap.get?_push_of_some _ e) (Heap.get?_push_size _ rfl) fun v h' tk hv same => ?_⟩
    exact q1 (by omega) v h' tk hv fun b o n1 e => same b o n1 (Nat.ne_of_lt (Heap.lt_size e)) (Heap.get?_push_of_some _ e)

theorem max_ints_kw {l : Addr} {its : List Value} {ns : List Int} {d : Value} {Q : Value → Shared → Prop} (hh : A.handled = none) (hl : s.heap.IsList l its.toArray) (hi : IntsAre its ns)
    (h0 : ns = [] → ∀ h' tk, (∀ b o, s.heap.get? b = some o → h'.get? b = some o) → Q d { s with heap := h', toks := tk })
    (h1 : ∀ h' tk m t', (∀ b o, s.heap.get? b = some o → h'.get? b = some o) → m ∈ ns → (∀ a, a ∈ ns → a ≤ m) → Q (.int m t') { s with heap := h', toks := tk }) :
    wpAny (model prog w) A (call (.builtin "max") [.ref l] [(Str.ofString "default", d)]) Q E s := by
  obtain ⟨xs, e⟩ := hi.allInts.items
  have hn : numsOf (intItems xs).toList = ns := by rw [← e]; exact hi.numsOf
  rw [nums_intItems] at hn
  subst hn
  rw [e] at hl
  refine max_walk_kw (iter_intList hl fun st e2 hst hfp hne => ?_)
  subst e2
  refine ⟨_, _, _, _, _, _, _, rfl, Walks.list (A := A.in1) hh _ l hne (intItems xs), hst, hfp, CmpOf.ints_gt (numAt xs) (fun _ _ => intItems_at), fun no h' tk same => ?_, fun yes v h' tk hv same => ?_⟩
  · refine h0 ?_ h' tk (old_kept same)
    have : xs.size = 0 := by simpa [intItems] using no
    rw [List.map_eq_nil_iff, ← List.length_eq_zero_iff, Array.length_toList]
    exact this
  · have hz : 0 < xs.size := by simpa [intItems] using yes
    have hv' : (intItems xs)[argBest (fun i j => decide (numAt xs i > numAt xs j)) (xs.size - 1)]? = some v := by simpa [intItems] using hv
    obtain ⟨t, rfl⟩ := intItems_at hv'
    obtain ⟨g1, g2⟩ := argBest_gt (numAt xs) (xs.size - 1)
    refine h1 h' tk _ t (old_kept same) ?_ fun a ha => ?_
    · rw [numAt_eq]; exact PySem.getD_mem (by rw [List.length_map, Array.length_toList]; omega)
    · obtain ⟨j, hj, rfl⟩ := mem_getD ha
      rw [List.length_map, Array.length_toList] at hj
      rw [← numAt_eq]; exact g2 j (by omega)

theorem min_ints_kw {l : Addr} {its : List Value} {ns : List Int} {d : Value} {Q : Value → Shared → Prop} (hh : A.handled = none) (hl : s.heap.IsList l its.toArray) (hi : IntsAre its ns)
    (h0 : ns = [] → ∀ h' tk, (∀ b o, s.heap.get? b = some o → h'.get? b = some o) → Q d { s with heap := h', toks := tk })
    (h1 : ∀ h' tk m t', (∀ b o, s.heap.get? b = some o → h'.get? b = some o) → m ∈ ns → (∀ a, a ∈ ns → m ≤ a) → Q (.int m t') { s with heap := h', toks := tk }) :
    wpAny (model prog w) A (call (.builtin "min") [.ref l] [(Str.ofString "default", d)]) Q E s := by
  obtain ⟨xs, e⟩ := hi.allInts.items
  have hn : numsOf (intItems xs).toList = ns := by rw [← e]; exact hi.numsOf
  rw [nums_intItems] at hn
  subst hn
  rw [e] at hl
  refine min_walk_kw (iter_intList hl fun st e2 hst hfp hne => ?_)
  subst e2
  refine ⟨_, _, _, _, _, _, _, rfl, Walks.list (A := A.in1) hh _ l hne (intItems xs), hst, hfp, CmpOf.ints_lt (numAt xs) (fun _ _ => intItems_at), fun no h' tk same => ?_, fun yes v h' tk hv same => ?_⟩
  · refine h0 ?_ h' tk (old_kept same)
    have : xs.size = 0 := by simpa [intItems] using no
    rw [List.map_eq_nil_iff, ← List.length_eq_zero_iff, Array.length_toList]
    exact this
  · have hz : 0 < xs.size := by simpa [intItems] using yes
    have hv' : (intItems xs)[argBest (fun i j => decide (numAt xs i < numAt xs j)) (xs.size - 1)]? = some v := by simpa [intItems] using hv
    obtain ⟨t, rfl⟩ := intItems_at hv'
    obtain ⟨g1, g2⟩ := argBest_lt (numAt xs) (xs.size - 1)
    refine h1 h' tk _ t (old_kept same) ?_ fun a ha => ?_
    · rw [numAt_eq]; exact PySem.getD_mem (by rw [List.length_map, Array.length_toList]; omega)
    · obtain ⟨j, hj, rfl⟩ := mem_getD ha
      rw [List.length_map, Array.length_toList] at hj
      rw [← numAt_eq]; exact g2 j (by omega)
end
end LDK
namespace LD
open PySem PySem.Spec PyProof.Rows L2
section
variable {X : Cx} {ct : Str → Option Addr} {sub : Str → Str → Option Bool} {cf : CfZ X.K ct sub} {P : Pg} {W : WX}
variable {a b c d e o : Expr} {ea eb ec ed : E} {es : List Expr} {el : EL} {pos cpos apos : Pos} {kr : Nat}
/-! ### max, min with default= -/
def rTwo (r : List V → Hp → VK → Prop) : List V → List V → Hp → VK → Prop
  | [x], [z], H, Q => r [x, z] H Q
  | _, _, _, _ => False
theorem cr_maxD (hc : X.calm = true) : CallRK X (.builtin "max") [Str.ofString "default"] (rTwo (rMaxD X.K)) := by
  intro pins s σ H xs zs us ws Q I r1 r2 h
  match xs, zs, r1, r2, h with
  | [x], [z], r1, r2, h =>
    obtain ⟨a, ns, d, e, hs, q0, q1⟩ := h
    cases e
    rw [Vals.ref1 r1]
    obtain ⟨w1, rfl, e1⟩ := vals1 r2
    obtain ⟨its, rv, hl, _⟩ := I.list hs
    exact LDK.max_ints_kw (I.ok.hd hc) hl.isList rv.ints (fun e h' tk hk => ⟨z, H, I.kept hk, e1, q0 e⟩) fun h' tk m t' hk h1 h2 => ⟨.int _, H, I.kept hk, ⟨_, rfl⟩, q1 m h1 h2⟩
theorem cr_minD (hc : X.calm = true) : CallRK X (.builtin "min") [Str.ofString "default"] (rTwo (rMinD X.K)) := by
  intro pins s σ H xs zs us ws Q I r1 r2 h
  match xs, zs, r1, r2, h with
  | [x], [z], r1, r2, h =>
    obtain ⟨a, ns, d, e, hs, q0, q1⟩ := h
    cases e
    rw [Vals.ref1 r1]
    obtain ⟨w1, rfl, e1⟩ := vals1 r2
    obtain ⟨its, rv, hl, _⟩ := I.list hs
    exact LDK.min_ints_kw (I.ok.hd hc) hl.isList rv.ints (fun e h' tk hk => ⟨z, H, I.kept hk, e1, q0 e⟩) fun h' tk m t' hk h1 h2 => ⟨.int _, H, I.kept hk, ⟨_, rfl⟩, q1 m h1 h2⟩
theorem b_maxD {p kp : Pos} (hc : X.calm = true) (hm : X.mg "max" = none) (ha : JE X cf P W a ea) (hd : JE X cf P W d ed) (hgl : Gl X "max" := by rfl)
    (hs : starEach [a] X.env = (false, eval a X.env) :: starEach [] X.env := by rfl)
    (he : backTo pos (starEach [a] X.env) = (false, eval a X.env) :: backTo pos (starEach [] X.env) := by rfl) (hpl : (backTo pos (starEach [a] X.env)).any (·.1) = false := by rfl)
    (hall : (backToKw pos (keywordEach [⟨some "default", d, kp⟩] X.env)).all (·.1.isSome) = true := by rfl) (hnone : (backToKw pos (keywordEach [⟨some "default", d, kp⟩] X.env)).any (·.1.isNone) = false := by rfl) (hks : (backToKw pos (keywordEach [⟨some "default", d, kp⟩] X.env)).filterMap (·.1) = [Str.ofString "default"] := by rfl) :
    JE X cf P W (.Call (.Name "max" p) [a] [⟨some "default", d, kp⟩] pos) (.prim .maxD (.cons ea (.cons ed .nil))) := by
  have q := pe_callBK (p := p) (cr_maxD hc) hgl hm (by decide +kernel) (pa_cons ha pa_nil hs) (pk_cons (kpos := kp) (nm := some "default") hd pk_nil) (by decide) (by decide) he hpl hall hnone hks
  exact ⟨fun pins s σ H Q I h => q.run pins s σ H Q I h⟩
theorem b_minD {p kp : Pos} (hc : X.calm = true) (hm : X.mg "min" = none) (ha : JE X cf P W a ea) (hd : JE X cf P W d ed) (hgl : Gl X "min" := by rfl)
    (hs : starEach [a] X.env = (false, eval a X.env) :: starEach [] X.env := by rfl)
    (he : backTo pos (starEach [a] X.env) = (false, eval a X.env) :: backTo pos (starEach [] X.env) := by rfl) (hpl : (backTo pos (starEach [a] X.env)).any (·.1) = false := by rfl)
    (hall : (backToKw pos (keywordEach [⟨some "default", d, kp⟩] X.env)).all (·.1.isSome) = true := by rfl) (hnone : (backToKw pos (keywordEach [⟨some "default", d, kp⟩] X.env)).any (·.1.isNone) = false := by rfl) (hks : (backToKw pos (keywordEach [⟨some "default", d, kp⟩] X.env)).filterMap (·.1) = [Str.ofString "default"] := by rfl) :
    JE X cf P W (.Call (.Name "min" p) [a] [⟨some "default", d, kp⟩] pos) (.prim .minD (.cons ea (.cons ed .nil))) := by
  have q := pe_callBK (p := p) (cr_minD hc) hgl hm (by decide +kernel) (pa_cons ha pa_nil hs) (pk_cons (kpos := kp) (nm := some "default") hd pk_nil) (by decide) (by decide) he hpl hall hnone hks
  exact ⟨fun pins s σ H Q I h => q.run pins s σ H Q I h⟩
/-! ### displays of dicts -/
section
variable {pins : List (Addr × Obj)} {σ : L2.St} {H : Hp} {s : Shared}
/-- an object of ours that was not tracked is tracked from now on -/
theorem track_new {p : Addr} {ob : HO} {oe : Obj} (J : Inv X pins σ H s) (h0 : ∀ o, X.s_0.heap.get? p = some o → p ∈ X.ex) (hp : ∀ q ∈ X.pn ++ pins, q.1 ≠ p) (ha : s.heap.get? p = some oe) (hd : ∀ v, oe.data ≠ .cell v) (na : H p = none) (nL : p ≠ X.env.locals)
    (new : ObjOk X.prog X.w (upd H p ob) s.heap p ob) : Inv X pins σ (upd H p ob) s := by
  have hn : ∀ {q}, q ≠ p → upd H p ob q = H q := fun e => upd_ne e
  refine ⟨J.ok, J.os, J.bare, ⟨J.base.keep, J.base.slot, fun q o e n hx => ?_, J.base.there, fun q xs e => ?_, fun q o u e => ?_, fun q ps e => ?_⟩, J.loc, J.cell, ?_, fun x c e => ?_, fun q m => ?_, J.hok.laidN (fun _ _ e => e) na new, J.len⟩
  · have : q ≠ p := fun z => hx (z ▸ h0 o (z ▸ e))
    rw [hn this]
    exact J.base.free q o e n hx
  · have k := J.base.tups q xs e
    rw [hn (ne_of_none k na)]
    exact k
  · have k := J.base.frzs q o u e
    rw [hn (ne_of_none k na)]
    exact k
  · obtain ⟨more, k⟩ := J.base.tbls q ps e
    exact ⟨more, by rw [hn (ne_of_none k na)]; exact k⟩
  · show upd H p ob X.env.locals = none
    rw [hn (Ne.symm nL)]
    exact J.free
  · have ne : c ≠ p := fun z => by
      obtain ⟨v, k⟩ := J.cell x c e
      subst z
      obtain ⟨o, q1, q2⟩ := k
      rw [ha] at q1
      cases q1
      exact hd v q2
    rw [hn ne]
    exact J.freeC x c e
  · obtain ⟨q1, q2, q3⟩ := J.pin q m
    exact ⟨q1, by rw [hn (hp q m)]; exact q2, q3⟩
end
/-- keys and values, in a row -/
def FV : List V → List (Value × Value) → Prop
  | [], [] => True
  | x :: y :: r, (u, v) :: ws => RelV x u ∧ RelV y v ∧ FV r ws
  | _, _ => False
structure JKV (X : Cx) {ct : Str → Option Addr} {sub : Str → Str → Option Bool} (cf : CfZ X.K ct sub) (P : Pg) (W : WX) (pos : Pos) (keys : List (Option Expr)) (values : List Expr) (el : EL) : Prop where
  run : ∀ (pins : List (Addr × Obj)) (s : Shared) (σ : L2.St) (H : Hp) (Q : List V → Hp → Prop), Inv X pins σ H s → semL (ops X.K ct sub cf) P W el σ H Q →
    wpAny (model X.prog X.w) X.A (evalPairs (pairTrees keys values X.env pos)) (fun ws s' => ∃ vs H', Inv X pins σ H' s' ∧ FV vs ws ∧ Q vs H') X.xe s
theorem kv_nil : JKV X cf P W pos [] [] .nil := ⟨fun pins s σ H Q I h => pairTrees_nil_walk ⟨[], H, I, trivial, h⟩⟩
theorem kv_cons {k v : Expr} {ek ev : E} {ks : List (Option Expr)} {vs : List Expr} (hk : JE X cf P W k ek) (hv : JE X cf P W v ev) (hr : JKV X cf P W pos ks vs el) : JKV X cf P W pos (some k :: ks) (v :: vs) (.cons ek (.cons ev el)) := ⟨fun pins s σ H Q I h =>
  pairTrees_cons_walk (thn (hk.run pins s σ H _ I h) fun u s1 ⟨x, H1, I1, rx, q1⟩ => thn (hv.run pins s1 σ H1 _ I1 q1) fun w2 s2 ⟨y, H2, I2, ry, q2⟩ =>
    thn (hr.run pins s2 σ H2 _ I2 q2) fun ws s3 ⟨ps, H3, I3, rel, q3⟩ => ⟨x :: y :: ps, H3, I3, ⟨rx, ry, rel⟩, q3⟩)⟩
theorem fv_vv : ∀ {kvs : List (Key × V)} {ws : List (Value × Value)}, FV (flatKV kvs) ws → VV (kvs.map fun kv => (kV kv.1, kv.2)) ws
  | [], [], _ => .nil
  | [], _ :: _, h => h.elim
  | (k, v) :: kvs, [], h => h.elim
  | (k, v) :: kvs, (u, w) :: ws, h => .cons ⟨h.1, h.2.1⟩ (fv_vv h.2.2)
theorem put_newK : ∀ (kvs acc : List (Key × V)), ((acc ++ kvs).map (·.1)).Nodup → mergeK acc kvs = acc ++ kvs := fun kvs acc h => merge_new kvs acc h
theorem d_dkv {keys : List (Option Expr)} {values : List Expr} (h : JKV X cf P W pos keys values el) (hall : keys.all (·.isSome) = true := by rfl) (hl : keys.length = values.length := by rfl) (h0 : keys ≠ [] := by simp) (h15 : keys.length ≤ 15 := by decide) :
    JE X cf P W (.Dict keys values pos) (.prim .dkv el) := by
  refine ⟨fun pins s σ H Q I q => ?_⟩
  have kp : ∀ b u, s.heap.get? b = some u → (s.heap.push { cls := .type "dict", data := .dict #[] }).get? b = some u := fun _ _ z => Heap.get?_push_of_some _ z
  have J := ClX.pin_new (t' := s.toks) I kp (Nat.le_refl s.heap.objs.size) (Heap.get?_push_size _ rfl) (fun v z => by cases z)
  refine wpAny_Dict_walk (knd := mixKind X.prog X.w) hall hl h0 h15 (thn (h.run _ _ σ H _ J q) fun ws s2 hh => ?_)
  obtain ⟨vs, H2, I2, rel, kvs, e, nd, _, lk, q2⟩ := hh
  subst e
  have hz := ClX.pin_at I2
  have hu := ClX.pin_un I2
  have I3 := ClX.unpin I2
  obtain ⟨rs, c, rk⟩ := carries_of (P := X.prog) (w := X.w) (fv_vv rel)
  have new0 : ObjOk X.prog X.w (upd H2 s.heap.objs.size (.dK [])) s2.heap s.heap.objs.size (.dK []) := ⟨Nat.zero_le _, beq_eq_false_iff_ne.mpr (Ne.symm (Nat.ne_of_lt I.big)), [], .nil, ⟨_, #[], 0, hz, ⟨rfl, rfl, rfl⟩, rfl, (fun _ z => by simp at z), Pairs.nil, List.nodup_nil⟩⟩
  have I4 : Inv X pins σ (upd H2 s.heap.objs.size (.dK [])) s2 := by
    refine track_new I3 (fun o z => ?_) (fun p hp => ?_) hz (fun v z => by cases z) hu ?_ new0
    · obtain ⟨_, _, _, f4, _⟩ := I.fpOk (H' := H) (b := s.heap.objs.size) (Nat.le_refl _) (I.hok.fresh (Nat.le_refl _))
      rcases f4 with f4 | f4
      · exact f4
      · exact absurd (Heap.lt_size z) (Nat.not_lt.mpr f4)
    · have := Heap.lt_size (I.pin p hp).1
      exact Nat.ne_of_lt this
    · exact Nat.ne_of_gt I.lt
  obtain ⟨z, hd, vs0, r0, dd⟩ := dk_of I4.hok upd_same
  cases r0
  refine ⟨rs, c, dd, fun h' dd' hs => ⟨.ref s.heap.objs.size, _, ?_, rfl, q2 _ hu⟩⟩
  have em : mergeK [] kvs = kvs := put_newK kvs [] (by simpa using nd)
  have hz2 : kvs.length ≤ sizeLine := by rw [sizeLine_eq]; omega
  have he : ∃ q, h'.get? s.heap.objs.size = some q := let ⟨q, _, _, hq, _⟩ := dd'; ⟨q, hq⟩
  have rk2 := rk.merge (kvs := []) (vs := []) .nil
  rw [em] at rk2
  have I5 := d_write (t' := s2.toks + ws.length) I4 (ob := .dK kvs) (by rw [upd_same]; exact True.intro) hs he (dk_new hz2 hd rk2 dd')
  have ee : upd (upd H2 s.heap.objs.size (.dK [])) s.heap.objs.size (.dK kvs) = upd H2 s.heap.objs.size (.dK kvs) := by
    funext q
    by_cases hq : q = s.heap.objs.size
    · subst hq; rw [upd_same, upd_same]
    · rw [upd_ne hq, upd_ne hq, upd_ne hq]
  rw [ee] at I5
  exact I5
/-! ### methods of texts and lists -/
theorem mt_hd {id : String} {r : V → List V → Hp → VK → Prop} (h : MtR X id r) : MtR X id (fun x xs H Q => rHd r (x :: xs) H Q) := by
  intro pins s σ H x xs v us Q I rx rs h1
  obtain ⟨x', xs', e, q⟩ := h1
  cases e
  exact h pins s σ H x xs v us Q I rx rs q
theorem m_split (ho : JE X cf P W o ea) (ha : JA X cf P W [e] el) (hbase : attributeBase o "split" X.env (eval o X.env) = eval o X.env := by rfl)
    (hfew : ((backTo cpos (starEach [e] X.env)).all (fun x => !x.1) && (backToKw cpos (keywordEach [] X.env)).all (fun x => x.1.isSome) && decide ([e].length + ([] : List Keyword).length + (if ([] : List Keyword).isEmpty then 0 else 1) < 30)) = true := by rfl)
    (hline : (apos.endLine == cpos.line) = true := by rfl) (hs : starEach [e] X.env = (false, eval e X.env) :: starEach [] X.env := by rfl) (hplain : (backTo cpos (starEach [] X.env)).any (·.1) = false := by rfl) :
    JE X cf P W (.Call (.Attribute o "split" apos) [e] [] cpos) (.pm .str .split ea el) := d_pm PySem.F.plainAttrs_str PySem.F.slot_str_split PySem.F.type_str_split (mt_hd mt_split) ho ha hbase hfew hline hs hplain
theorem m_partition (ho : JE X cf P W o ea) (ha : JA X cf P W [e] el) (hbase : attributeBase o "partition" X.env (eval o X.env) = eval o X.env := by rfl)
    (hfew : ((backTo cpos (starEach [e] X.env)).all (fun x => !x.1) && (backToKw cpos (keywordEach [] X.env)).all (fun x => x.1.isSome) && decide ([e].length + ([] : List Keyword).length + (if ([] : List Keyword).isEmpty then 0 else 1) < 30)) = true := by rfl)
    (hline : (apos.endLine == cpos.line) = true := by rfl) (hs : starEach [e] X.env = (false, eval e X.env) :: starEach [] X.env := by rfl) (hplain : (backTo cpos (starEach [] X.env)).any (·.1) = false := by rfl) :
    JE X cf P W (.Call (.Attribute o "partition" apos) [e] [] cpos) (.pm .str .partition ea el) := d_pm PySem.F.plainAttrs_str PySem.F.slot_str_partition PySem.F.type_str_partition (mt_hd mt_partition) ho ha hbase hfew hline hs hplain
theorem m_startsw (ho : JE X cf P W o ea) (ha : JA X cf P W [e] el) (hbase : attributeBase o "startswith" X.env (eval o X.env) = eval o X.env := by rfl)
    (hfew : ((backTo cpos (starEach [e] X.env)).all (fun x => !x.1) && (backToKw cpos (keywordEach [] X.env)).all (fun x => x.1.isSome) && decide ([e].length + ([] : List Keyword).length + (if ([] : List Keyword).isEmpty then 0 else 1) < 30)) = true := by rfl)
    (hline : (apos.endLine == cpos.line) = true := by rfl) (hs : starEach [e] X.env = (false, eval e X.env) :: starEach [] X.env := by rfl) (hplain : (backTo cpos (starEach [] X.env)).any (·.1) = false := by rfl) :
    JE X cf P W (.Call (.Attribute o "startswith" apos) [e] [] cpos) (.pm .str .startsw ea el) := d_pm PySem.F.plainAttrs_str PySem.F.slot_str_startswith PySem.F.type_str_startswith (mt_hd mt_startswith) ho ha hbase hfew hline hs hplain
theorem m_endsw (ho : JE X cf P W o ea) (ha : JA X cf P W [e] el) (hbase : attributeBase o "endswith" X.env (eval o X.env) = eval o X.env := by rfl)
    (hfew : ((backTo cpos (starEach [e] X.env)).all (fun x => !x.1) && (backToKw cpos (keywordEach [] X.env)).all (fun x => x.1.isSome) && decide ([e].length + ([] : List Keyword).length + (if ([] : List Keyword).isEmpty then 0 else 1) < 30)) = true := by rfl)
    (hline : (apos.endLine == cpos.line) = true := by rfl) (hs : starEach [e] X.env = (false, eval e X.env) :: starEach [] X.env := by rfl) (hplain : (backTo cpos (starEach [] X.env)).any (·.1) = false := by rfl) :
    JE X cf P W (.Call (.Attribute o "endswith" apos) [e] [] cpos) (.pm .str .endsw ea el) := d_pm PySem.F.plainAttrs_str PySem.F.slot_str_endswith PySem.F.type_str_endswith (mt_hd mt_endswith) ho ha hbase hfew hline hs hplain
theorem m_ljust (ho : JE X cf P W o ea) (ha : JA X cf P W [e] el) (hbase : attributeBase o "ljust" X.env (eval o X.env) = eval o X.env := by rfl)
    (hfew : ((backTo cpos (starEach [e] X.env)).all (fun x => !x.1) && (backToKw cpos (keywordEach [] X.env)).all (fun x => x.1.isSome) && decide ([e].length + ([] : List Keyword).length + (if ([] : List Keyword).isEmpty then 0 else 1) < 30)) = true := by rfl)
    (hline : (apos.endLine == cpos.line) = true := by rfl) (hs : starEach [e] X.env = (false, eval e X.env) :: starEach [] X.env := by rfl) (hplain : (backTo cpos (starEach [] X.env)).any (·.1) = false := by rfl) :
    JE X cf P W (.Call (.Attribute o "ljust" apos) [e] [] cpos) (.pm .str .ljust ea el) := d_pm PySem.F.plainAttrs_str PySem.F.slot_str_ljust PySem.F.type_str_ljust (mt_hd mt_ljust) ho ha hbase hfew hline hs hplain
theorem m_count (ho : JE X cf P W o ea) (ha : JA X cf P W [e] el) (hbase : attributeBase o "count" X.env (eval o X.env) = eval o X.env := by rfl)
    (hfew : ((backTo cpos (starEach [e] X.env)).all (fun x => !x.1) && (backToKw cpos (keywordEach [] X.env)).all (fun x => x.1.isSome) && decide ([e].length + ([] : List Keyword).length + (if ([] : List Keyword).isEmpty then 0 else 1) < 30)) = true := by rfl)
    (hline : (apos.endLine == cpos.line) = true := by rfl) (hs : starEach [e] X.env = (false, eval e X.env) :: starEach [] X.env := by rfl) (hplain : (backTo cpos (starEach [] X.env)).any (·.1) = false := by rfl) :
    JE X cf P W (.Call (.Attribute o "count" apos) [e] [] cpos) (.pm .list .count ea el) := d_pm PySem.F.plainAttrs_list PySem.F.slot_list_count PySem.F.type_list_count (mt_hd mt_lcount) ho ha hbase hfew hline hs hplain
/-! ### xs[::-1] -/
theorem d_slr {k : Nat} {p1 p2 p3 : Pos} (ha : JE X cf P W a ea) : JE X cf P W (.Subscript a (.Slice none none (some (.UnaryOp .USub (.Constant (.int 1) k p1) p2)) p3) pos) (.prim .slr (.cons ea .nil)) := by
  refine ⟨fun pins s σ H Q I h => ?_⟩
  refine (pe_revL (PE.wide ha)).run pins s σ H Q I ⟨_, h, fun v H1 hq => ?_⟩
  obtain ⟨x', e, q⟩ := hq
  cases e
  exact q
/-! ### isinstance of several classes -/
structure TN (X : Cx) (ct : Str → Option Addr) (es : List Expr) (cs : List Str) : Prop where
  pa : PA X es (fun _ H Q => Q (cs.map fun c => V.ref ((ct c).getD 0)) H)
theorem tn_nil : TN X ct [] [] := ⟨pa_nil⟩
theorem tn_cons {y cn : Str} {C : Addr} {p2 : Pos} {cs : List Str} (hmt : X.mg y = some (.ref C)) (hct : ct cn = some C) (r : TN X ct es cs) (hgt : Gl X y := by rfl) (hdb : (y == ("__debug__" : Str)) = false := by decide)
    (he : starEach (.Name y p2 :: es) X.env = (false, eval (.Name y p2) X.env) :: starEach es X.env := by rfl) : TN X ct (.Name y p2 :: es) (cn :: cs) := by
  have e : (ct cn).getD 0 = C := by rw [hct]; rfl
  refine ⟨?_⟩
  have q := pa_cons (pe_glob (v := .ref C) (pos := p2) hgt hmt rfl hdb) r.pa he
  rw [← e] at q
  exact q
def rIsXt (K : PySem.W.Frag) (ct : Str → Option Addr) (cs : List Str) : List V → Hp → VK → Prop := fun vs H Q => ∃ a tp B d k b, vs = [.ref a, .ref tp] ∧ H tp = some (.tup (cs.map fun c => V.ref ((ct c).getD 0))) ∧ Rd H a (XO B d a) ∧ (∃ kvs, XD H d kvs) ∧ ct b = some B ∧ isX b = true ∧ PySem.W.kitAny K (.ref B) (cs.map fun c => Value.ref ((ct c).getD 0)) = some k ∧ Q (.bl k) H
theorem refs_vals : ∀ {cs : List Str} {us : List Value}, Vals (cs.map fun c => V.ref ((ct c).getD 0)) us → us = cs.map fun c => Value.ref ((ct c).getD 0)
  | [], _, r => by cases r; rfl
  | c :: cs, _, r => by
    rw [List.map_cons] at r
    cases r with
    | cons h t =>
      rw [refs_vals t, List.map_cons]
      congr 1
theorem call_isXt {cs : List Str} (hx : ∀ c C, ct c = some C → isX c = true → ExcC X.K C) : CallR X (.builtin "isinstance") (rIsXt X.K ct cs) := by
  intro pins s σ H xs us Q I r h
  obtain ⟨a, tp, B, d, k, b, rfl, hT, hr, ⟨kvs, hxd⟩, hb, hxb, e, q⟩ := h
  obtain ⟨u1, u2, rfl, r1, r2⟩ := vals2 r
  obtain rfl : u1 = Value.ref a := r1
  obtain rfl : u2 = Value.ref tp := r2
  obtain ⟨oe, vs, ha, hz, hv⟩ := xo_at I hr
  have J : ∃ ox od, PySem.W.InstAt s.heap a ox B od := by
    cases hd : d with
    | none => exact ⟨oe, none, ha, hz.1, by unfold PySem.W.notCls; rw [hv] <;> rfl, by rw [hz.2, hd]; trivial⟩
    | some dd =>
      rw [hd] at hxd hz
      have hx2 : ObjOk X.prog X.w H s.heap dd (.xd kvs) := Rd.ok (show Rd H dd (.xd kvs) from hxd) I.hok
      obtain ⟨mA, hns, _⟩ := hx2
      obtain ⟨od, ho, _⟩ := lookIn_ns hns
      exact ⟨oe, some od, ha, hz.1, by unfold PySem.W.notCls; rw [hv] <;> rfl, by rw [hz.2]; exact ho⟩
  obtain ⟨_, its, rv, o, h1, h2, n, h3⟩ := (show ObjOk X.prog X.w H s.heap tp (.tup _) from I.hok tp _ hT)
  have e3 := refs_vals rv
  subst e3
  obtain ⟨oc, od, dt, sl⟩ := o
  simp only at h2 h3
  subst h2 h3
  exact PySem.W.kia_tup (kitx_xo (hx b B hb hxb)) I.kIn J h1 e (fun z => nomatch z) fun tk => ⟨.bl k, H, I.kept (t' := tk) fun _ _ z => z, rfl, q⟩
theorem b_isCs {cs : List Str} {tk : Nat} {p tp : Pos} (hm : X.mg "isinstance" = none) (hn : TN X ct es cs) (hcs : (opR X.K ct (.isC cs)) = rIsXs X.K ct cs) (hlen : cs.length ≤ 30) (ha : JE X cf P W a ea) (hgl : Gl X "isinstance" := by rfl)
    (he : starEach (a :: [.Tuple es tk tp]) X.env = (false, eval a X.env) :: starEach [.Tuple es tk tp] X.env := by rfl) (he2 : starEach [.Tuple es tk tp] X.env = (false, eval (.Tuple es tk tp) X.env) :: starEach [] X.env := by rfl) (hpl : (backTo pos (starEach [.Tuple es tk tp] X.env)).any (·.1) = false := by rfl) : JE X cf P W (.Call (.Name "isinstance" p) [a, .Tuple es tk tp] [] pos) (.prim (.isC cs) (.cons ea .nil)) := by
  have q : PE X (.Call (.Name "isinstance" p) [a, .Tuple es tk tp] [] pos) (tCB (rIsXt X.K ct cs) (tCons (fun σ H Q => ∃ R : VK, semE (ops X.K ct sub cf) P W ea σ H R ∧ ∀ v H1, R v H1 → Q v H1) (tCons (tTup (fun _ H Q => Q (cs.map fun c => V.ref ((ct c).getD 0)) H)) tNil))) :=
    pe_callB (id := "isinstance") (call_isXt cf.c.xc) hgl hm (by decide +kernel) (pa_cons (PE.wide ha) (pa_cons (pe_tup hn.pa) pa_nil he2) he) (by decide) (by decide) he hpl
  refine ⟨fun pins s σ H Q I h => q.run pins s σ H Q I ⟨_, h, fun v H1 hq => ?_⟩⟩
  have hq' : opR X.K ct (.isC cs) [v] H1 Q := hq
  rw [hcs] at hq'
  obtain ⟨a', B, d, k, b, e, hr, hx, hb, hxb, ek, q2⟩ := hq'
  cases e
  show (cs.map fun c => V.ref ((ct c).getD 0)).length ≤ sizeLine ∧ ∀ p, H1 p = none → rIsXt X.K ct cs [.ref a', .ref p] (upd H1 p (.tup (cs.map fun c => V.ref ((ct c).getD 0)))) Q
  refine ⟨by rw [List.length_map, sizeLine_eq]; omega, ?_⟩
  intro p hp
  have na : a' ≠ p := fun z => by
    subst z
    rcases hr with hr | ⟨o, hr⟩ <;> (rw [hp] at hr; cases hr)
  have up : ∀ {c : Addr} {u : HO}, Rd H1 c u → Rd (upd H1 p (.tup (cs.map fun c => V.ref ((ct c).getD 0)))) c u := fun {c u} hc => by
    have : c ≠ p := fun z => by
      subst z
      rcases hc with hc | ⟨o, hc⟩ <;> (rw [hp] at hc; cases hc)
    rcases hc with hc | ⟨o, hc⟩
    · exact .inl (by rw [upd_ne this]; exact hc)
    · exact .inr ⟨o, by rw [upd_ne this]; exact hc⟩
  obtain ⟨kvs, hk⟩ := hx
  refine ⟨a', p, B, d, k, b, rfl, upd_same, up hr, ⟨kvs, ?_⟩, hb, hxb, ek, q2 p hp⟩
  cases d with
  | none => exact hk
  | some dd => exact up (show Rd H1 dd (.xd kvs) from hk)
end
end LD
namespace LD
open PySem PySem.Spec PyProof.Rows L2
/-! ### equality of what differs by its locks alone -/
mutual
def D.dok : Nat → D → Bool
  | _, .non => true
  | _, .bl _ => true
  | _, .int _ => true
  | _, .str _ => true
  | n + 1, .lst _ l => D.dokL n l
  | n + 1, .tup l => D.dokL n l
  | n + 1, .dct _ ks l => decide ks.Nodup && ks.length == l.length && D.dokL n l
  | _, _ => false
def D.dokL : Nat → List D → Bool
  | _, [] => true
  | n, d :: r => D.dok n d && D.dokL n r
end
@[simp] theorem dok_non (n : Nat) : D.dok n .non = true := by cases n <;> simp only [D.dok]
@[simp] theorem dok_bl (n : Nat) (b : Bool) : D.dok n (.bl b) = true := by cases n <;> simp only [D.dok]
@[simp] theorem dok_int (n : Nat) (b : Int) : D.dok n (.int b) = true := by cases n <;> simp only [D.dok]
@[simp] theorem dok_str (n : Nat) (b : Str) : D.dok n (.str b) = true := by cases n <;> simp only [D.dok]
@[simp] theorem dok_tup (n : Nat) (l : List D) : D.dok (n + 1) (.tup l) = D.dokL n l := by simp only [D.dok]
@[simp] theorem dok_lst (n : Nat) (m : Bool) (l : List D) : D.dok (n + 1) (.lst m l) = D.dokL n l := by simp only [D.dok]
@[simp] theorem dok_dct (n : Nat) (m : Bool) (ks : List Key) (l : List D) : D.dok (n + 1) (.dct m ks l) = (decide ks.Nodup && ks.length == l.length && D.dokL n l) := by simp only [D.dok]
@[simp] theorem dokL_nil (n : Nat) : D.dokL n [] = true := by simp only [D.dokL]
@[simp] theorem dokL_cons (n : Nat) (d : D) (l : List D) : D.dokL n (d :: l) = (D.dok n d && D.dokL n l) := by simp only [D.dokL]
theorem dokL_all {n : Nat} : ∀ {l : List D}, (∀ d ∈ l, D.dok n d = true) → D.dokL n l = true
  | [], _ => dokL_nil n
  | d :: l, h => by rw [dokL_cons, h d List.mem_cons_self, dokL_all fun x hx => h x (List.mem_cons_of_mem _ hx)]; rfl
@[simp] theorem dokL_ints (n : Nat) (ns : List Int) : D.dokL n (ns.map D.int) = true := dokL_all fun d h => by
  obtain ⟨i, _, rfl⟩ := List.mem_map.mp h
  simp
@[simp] theorem dokL_strs (n : Nat) (ns : List Str) : D.dokL n (ns.map D.str) = true := dokL_all fun d h => by
  obtain ⟨i, _, rfl⟩ := List.mem_map.mp h
  simp
theorem frL_len : ∀ {a b : List D}, D.freezeL a = D.freezeL b → a.length = b.length := fun {a b} h => by
  rw [frL_map, frL_map] at h
  have := congrArg List.length h
  simpa using this
mutual
theorem eqb_fr : ∀ (n : Nat) (a b : D), D.freeze a = D.freeze b → D.pl n a = true → D.eqb a b = true
  | n, .non, b, h, _ => by cases b <;> simp at h; simp
  | n, .bl x, b, h, _ => by cases b <;> simp at h; subst h; simp
  | n, .int x, b, h, _ => by cases b <;> simp at h; subst h; simp
  | n, .str x, b, h, _ => by cases b <;> simp at h; subst h; simp
  | n + 1, .lst m l, b, h, p => by
    cases b <;> simp at h
    rw [eqb_lst]
    exact eqbL_fr n _ _ h (by simpa using p)
  | n + 1, .tup l, b, h, p => by
    cases b <;> simp at h
    rw [eqb_tup]
    exact eqbL_fr n _ _ h (by simpa using p)
  | 0, .lst m l, b, h, p => by cases p
  | 0, .tup l, b, h, p => by cases p
  | 0, .dct _ _ _, b, h, p => by cases p
  | n + 1, .dct _ _ _, b, h, p => by cases p
  | 0, .ins _ _ _ _, b, h, p => by cases p
  | n + 1, .ins _ _ _ _, b, h, p => by cases p
  | 0, .exn _ _ _, b, h, p => by cases p
  | n + 1, .exn _ _ _, b, h, p => by cases p
theorem eqbL_fr : ∀ (n : Nat) (a b : List D), D.freezeL a = D.freezeL b → D.plL n a = true → D.eqbL a b = true
  | n, [], b, h, _ => by
    cases b with
    | nil => simp
    | cons y b => simp at h
  | n, x :: a, b, h, p => by
    cases b with
    | nil => simp at h
    | cons y b =>
      simp only [frL_cons, List.cons.injEq] at h
      rw [plL_cons, Bool.and_eq_true] at p
      rw [eqbL_cons, eqb_fr n x y h.1 p.1, eqbL_fr n a b h.2 p.2]
      rfl
end
theorem find_at {ks : List Key} (nd : ks.Nodup) {i : Nat} {k : Key} (h : ks[i]? = some k) : ks.findIdx? (fun j => decide (j = k)) = some i := by
  obtain ⟨hi, e⟩ := List.getElem?_eq_some_iff.mp h
  rw [List.findIdx?_eq_some_iff_getElem]
  refine ⟨hi, by simp [e], fun j hj => ?_⟩
  have hne : ks[j] ≠ ks[i] := fun z => by
    have := (List.getElem_inj nd).mp z
    omega
  simp only [Bool.not_eq_true, decide_eq_false_iff_not]
  exact fun z => hne (z.trans e.symm)
mutual
theorem eqd_fr : ∀ (n : Nat) (a b : D), D.freeze a = D.freeze b → D.dok n a = true → D.eqd n a b = true
  | n, .non, b, h, _ => by cases b <;> simp at h; cases n <;> rfl
  | n, .bl x, b, h, _ => by cases b <;> simp at h; subst h; cases n <;> simp [D.eqd, D.flat]
  | n, .int x, b, h, _ => by cases b <;> simp at h; subst h; cases n <;> simp [D.eqd, D.flat]
  | n, .str x, b, h, _ => by cases b <;> simp at h; subst h; cases n <;> simp [D.eqd, D.flat]
  | n + 1, .lst m l, b, h, p => by
    cases b <;> simp at h
    simp only [D.eqd]
    exact eqdL_fr n _ _ h (by simpa using p)
  | n + 1, .tup l, b, h, p => by
    cases b <;> simp at h
    simp only [D.eqd]
    exact eqdL_fr n _ _ h (by simpa using p)
  | n + 1, .dct m ks l, b, h, p => by
    cases b <;> simp at h
    rename_i m' ks' l'
    obtain ⟨rfl, h⟩ := h
    rw [dok_dct, Bool.and_eq_true, Bool.and_eq_true, decide_eq_true_eq, beq_iff_eq] at p
    have hl := frL_len h
    simp only [D.eqd]
    rw [eqdK_fr n ks l' p.1.1 (by omega) l l' ks 0 (fun i => by simp) (fun i => by simp) (by rw [p.1.2]) h p.2]
    simp [p.1.2, ← hl]
  | 0, .lst m l, b, h, p => by cases p
  | 0, .tup l, b, h, p => by cases p
  | 0, .dct _ _ _, b, h, p => by cases p
  | 0, .ins _ _ _ _, b, h, p => by cases p
  | n + 1, .ins _ _ _ _, b, h, p => by cases p
  | 0, .exn _ _ _, b, h, p => by cases p
  | n + 1, .exn _ _ _, b, h, p => by cases p
theorem eqdL_fr : ∀ (n : Nat) (a b : List D), D.freezeL a = D.freezeL b → D.dokL n a = true → D.eqdL n a b = true
  | n, [], b, h, _ => by
    cases b with
    | nil => simp [D.eqdL]
    | cons y b => simp at h
  | n, x :: a, b, h, p => by
    cases b with
    | nil => simp at h
    | cons y b =>
      simp only [frL_cons, List.cons.injEq] at h
      rw [dokL_cons, Bool.and_eq_true] at p
      simp only [D.eqdL]
      rw [eqd_fr n x y h.1 p.1, eqdL_fr n a b h.2 p.2]
      rfl
theorem eqdK_fr : ∀ (n : Nat) (ks0 : List Key) (b0 : List D) (nd : ks0.Nodup) (hl : ks0.length = b0.length) (a b : List D) (ks : List Key) (o : Nat) (hk : ∀ i, ks0[o + i]? = ks[i]?) (hb : ∀ i, b0[o + i]? = b[i]?) (hla : ks.length = a.length), D.freezeL a = D.freezeL b → D.dokL n a = true → D.eqdK n ks a ks0 b0 = true
  | n, ks0, b0, nd, hl, [], b, ks, o, hk, hb, hla, h, p => by
    cases ks with
    | nil => simp [D.eqdK]
    | cons k ks => simp at hla
  | n, ks0, b0, nd, hl, x :: a, b, ks, o, hk, hb, hla, h, p => by
    cases ks with
    | nil => simp at hla
    | cons k ks =>
      cases b with
      | nil => simp at h
      | cons y b =>
        simp only [frL_cons, List.cons.injEq] at h
        rw [dokL_cons, Bool.and_eq_true] at p
        have h1 : ks0[o]? = some k := by simpa using hk 0
        have h2 : b0[o]? = some y := by simpa using hb 0
        simp only [D.eqdK]
        rw [find_at nd h1]
        simp only [Option.bind_some, h2]
        rw [eqd_fr n x y h.1 p.1, eqdK_fr n ks0 b0 nd hl a b ks (o + 1) (fun i => by have := hk (i + 1); rw [show o + 1 + i = o + (i + 1) by omega]; simpa using this) (fun i => by have := hb (i + 1); rw [show o + 1 + i = o + (i + 1) by omega]; simpa using this) (by simpa using hla) h.2 p.2]
        rfl
end
section
variable (sub : Str → Str → Option Bool)
theorem of_eqZ {a b : D} (h : D.freeze a = D.freeze b) (p : D.dok 20 a = true) : opF sub .eq [a, b] = some (.bl true) := by
  show (if D.scal2 a b = true then some (D.bl (D.eqb a b != false)) else if (D.pl 9 a && D.pl 9 b) = true then some (D.bl (D.eqb a b != false)) else if (!false && D.eqd 20 a b) = true then some (.bl true) else if (false && D.eqf a b) = true then some (.bl false) else none) = _
  split
  · rename_i hs
    have : D.eqb a b = true := by
      cases a with
      | str x => cases b <;> simp at h; subst h; simp
      | _ =>
      refine eqb_fr 9 _ b h ?_
      first | rfl | (cases b <;> first | (cases hs; done) | (simp at h; done))
    rw [this]
    rfl
  · split
    · rename_i hs
      rw [Bool.and_eq_true] at hs
      rw [eqb_fr 9 a b h hs.1]
      rfl
    · rw [if_pos (by rw [eqd_fr 20 a b h p]; rfl)]
/-- equal, by the plain data alone -/
theorem of_neZ {a b : D} (h : D.freeze a = D.freeze b) (p : D.pl 9 a = true) (q : D.pl 9 b = true) : opF sub .ne [a, b] = some (.bl false) := by
  rw [of_neP sub (.inr (by rw [p, q]; rfl)), eqb_fr 9 a b h p]
  rfl
end
/-! ### displays, default=, more of texts: equations to compute with -/
section
variable (sub : Str → Str → Option Bool)
theorem of_dkv (ds : List D) : opF sub .dkv ds = fDkv ds := id rfl
theorem of_dkv1 {k : Key} {a v : D} (h : keyOf a = some k) : opF sub .dkv [a, v] = some (.dct true [k] [v]) := by
  show ((kvsD [a, v]).bind fun q => if q.1.Nodup ∧ 0 < q.1.length ∧ q.1.length ≤ 15 then some (D.dct true q.1 q.2) else none) = _
  have e : kvsD [a, v] = some ([k], [v]) := by simp [kvsD, h]
  rw [e]
  simp
@[simp] theorem of_dkvI (i : Int) (v : D) : opF sub .dkv [.int i, v] = some (.dct true [.inl i] [v]) := of_dkv1 sub rfl
@[simp] theorem of_dkvS (i : Str) (v : D) : opF sub .dkv [.str i, v] = some (.dct true [.inr i] [v]) := of_dkv1 sub rfl
theorem of_maxD (m : Bool) (ns : List Int) (d : D) (h : d.flat = true) : opF sub .maxD [.lst m (ns.map D.int), d] = some (if ns = [] then d else .int (maxI ns)) := by
  show (match D.ints (ns.map D.int) with
    | some [] => if d.flat = true then some d else none
    | some (a :: r) => some (.int (maxI (a :: r)))
    | none => none) = _
  rw [ints_map]
  cases ns with
  | nil => simp [h]
  | cons a r => simp
theorem of_minD (m : Bool) (ns : List Int) (d : D) (h : d.flat = true) : opF sub .minD [.lst m (ns.map D.int), d] = some (if ns = [] then d else .int (minI ns)) := by
  show (match D.ints (ns.map D.int) with
    | some [] => if d.flat = true then some d else none
    | some (a :: r) => some (.int (minI (a :: r)))
    | none => none) = _
  rw [ints_map]
  cases ns with
  | nil => simp [h]
  | cons a r => simp
@[simp] theorem of_split (a b : Str) : opF sub .split [.str a, .str b] = if (b.length == 0) = false ∧ a.length + 2 < lim then some (.lst true ((Txt.split a b).map D.str)) else none := id rfl
@[simp] theorem of_partition (a b : Str) : opF sub .partition [.str a, .str b] = if (b.length == 0) = false ∧ a.length < lim then some (.tup [.str (Txt.partition a b).1, .str (Txt.partition a b).2.1, .str (Txt.partition a b).2.2]) else none := id rfl
@[simp] theorem of_startsw (a b : Str) : opF sub .startsw [.str a, .str b] = some (.bl (Txt.startswith a b)) := id rfl
@[simp] theorem of_endsw (a b : Str) : opF sub .endsw [.str a, .str b] = some (.bl (Txt.endswith a b)) := id rfl
@[simp] theorem of_ljust (a : Str) (i : Int) : opF sub .ljust [.str a, .int i] = if PadOk i = true then some (.str (Txt.ljust a i)) else none := id rfl
@[simp] theorem of_count (m : Bool) (ns : List Int) (k : Int) : opF sub .count [.lst m (ns.map D.int), .int k] = some (.int (ns.count k : Nat)) := by
  show (D.ints (ns.map D.int)).map (fun ns => D.int (ns.count k : Nat)) = _
  rw [ints_map]
  rfl
@[simp] theorem of_slr (m : Bool) (l : List D) : opF sub .slr [.lst m l] = if D.fzL l = true then some (.lst true l.reverse) else none := id rfl
@[simp] theorem of_isV (n k : Nat) (fs : List Str) (l : List D) : opF sub (.isT "ValueError") [.exn ⟨#[n, k]⟩ fs l] = some (.bl true) := by
  show (if isX ⟨#[n, k]⟩ = true ∧ "ValueError" = "ValueError" then some (D.bl true) else none) = _
  rw [if_pos ⟨isX_2 n k, rfl⟩]
theorem of_isCs (c1 c2 : Str) (cs : List Str) (n k : Nat) (fs : List Str) (l : List D) : opF sub (.isC (c1 :: c2 :: cs)) [.exn ⟨#[n, k]⟩ fs l] = (subAny sub ⟨#[n, k]⟩ (c1 :: c2 :: cs)).map .bl := by
  show (if isX ⟨#[n, k]⟩ = true then (subAny sub ⟨#[n, k]⟩ (c1 :: c2 :: cs)).map D.bl else none) = _
  rw [if_pos (isX_2 n k)]
end
theorem tab_mem {b c : Str} {k : Bool} : ∀ {l : List ((Str × Str) × Bool)}, l.lookup (b, c) = some k → ((b, c), k) ∈ l
  | [], h => by cases h
  | ((x, y), v) :: l, h => by
    rw [List.lookup_cons] at h
    by_cases e : ((b, c) == (x, y)) = true
    · rw [e] at h
      have e2 := eq_of_beq e
      cases e2
      cases h
      exact List.mem_cons_self
    · rw [Bool.eq_false_iff.mpr e] at h
      exact List.mem_cons_of_mem _ (tab_mem h)
section
variable {X : Cx} {ct : Str → Option Addr} {sub : Str → Str → Option Bool} {cf : CfZ X.K ct sub} {P : Pg} {W : WX}
variable {a b c : Expr} {ea eb ec : E} {pos : Pos}
/-! the same within an except suite: only the room of units is asked for -/
theorem d_eqU (hr : X.A.units + 64 < cLine) (ha : JE X cf P W a ea) (hb : JE X cf P W b eb) : JE X cf P W (.Compare a [.Eq] [b] pos) (.prim .eq (.cons ea (.cons eb .nil))) := d_cmp (opr_eqQ hr) rfl ha hb (nomark _)
theorem d_neU (hr : X.A.units + 64 < cLine) (ha : JE X cf P W a ea) (hb : JE X cf P W b eb) : JE X cf P W (.Compare a [.NotEq] [b] pos) (.prim .ne (.cons ea (.cons eb .nil))) := d_cmp (opr_neQ hr) rfl ha hb (nomark _)
theorem d_in_U (hr : X.A.units + 65 < cLine) (ha : JE X cf P W a ea) (hb : JE X cf P W b eb) (hm : behindInMarks .In b = false := by with_unfolding_all rfl) : JE X cf P W (.Compare a [.In] [b] pos) (.prim .in_ (.cons ea (.cons eb .nil))) := d_cmp (opr_inQ hr) rfl ha hb hm
theorem d_notinU (hr : X.A.units + 65 < cLine) (ha : JE X cf P W a ea) (hb : JE X cf P W b eb) (hm : behindInMarks .NotIn b = false := by with_unfolding_all rfl) : JE X cf P W (.Compare a [.NotIn] [b] pos) (.prim .notin (.cons ea (.cons eb .nil))) := d_cmp (opr_notinQ hr) rfl ha hb hm
theorem t_eqU (hr : X.A.units + 64 < cLine) (ha : JE X cf P W a ea) (hb : JE X cf P W b eb) : JB X cf P W (.Compare a [.Eq] [b] pos) (.e (.prim .eq (.cons ea (.cons eb .nil)))) := d_tcmp (opr_eqQ hr) rfl ha hb (nomark _)
theorem t_neU (hr : X.A.units + 64 < cLine) (ha : JE X cf P W a ea) (hb : JE X cf P W b eb) : JB X cf P W (.Compare a [.NotEq] [b] pos) (.e (.prim .ne (.cons ea (.cons eb .nil)))) := d_tcmp (opr_neQ hr) rfl ha hb (nomark _)
theorem t_in_U (hr : X.A.units + 65 < cLine) (ha : JE X cf P W a ea) (hb : JE X cf P W b eb) (hm : behindInMarks .In b = false := by with_unfolding_all rfl) : JB X cf P W (.Compare a [.In] [b] pos) (.e (.prim .in_ (.cons ea (.cons eb .nil)))) := d_tcmp (opr_inQ hr) rfl ha hb hm
theorem t_notinU (hr : X.A.units + 65 < cLine) (ha : JE X cf P W a ea) (hb : JE X cf P W b eb) (hm : behindInMarks .NotIn b = false := by with_unfolding_all rfl) : JB X cf P W (.Compare a [.NotIn] [b] pos) (.e (.prim .notin (.cons ea (.cons eb .nil)))) := d_tcmp (opr_notinQ hr) rfl ha hb hm
end
end LD
namespace LD
open PySem PySem.Spec PyProof.Rows L2
/-! ### the text by places -/
def topS (i : Nat) : Stmt := PySem.Challenge.pw_layerdraw_k11_which_arrows_are_turned.main.body.getD i (.Pass ⟨0, 0, 0, 0⟩)
abbrev cid (n : Nat) : Str := ⟨#[n]⟩
abbrev fid (n : Nat) : Str := ⟨#[n]⟩
abbrev xid (n : Nat) : Str := ⟨#[n, 0]⟩
def csub (a b : Str) : Option Bool := none
def csx (a b : Str) : Option Bool := none
def cmt (c m : Str) : Option Str := cmtN (c.cps.getD 0 0) m
where cmtN : Nat → Str → Option Str
  | 8, m => if m = "arrows" then some (fid 18) else if m = "both_there" then some (fid 10) else if m = "put_arrow" then some (fid 12) else if m = "put_point" then some (fid 11) else if m = "take_arrow" then some (fid 15) else none
  | _, _ => none
abbrev ccs : List Str := [cid 8]
def ctF (C8 : Addr) : Str → Option Addr := fun s => match s.cps.toList with
  | [8] => some C8
  | _ => none
/-! ### the defs, and what a call of each gives -/
def fuel : Nat := 1000000000000000000000000000000
def pg0 : Pg := { f := opF csub, fi := itF, cal := fun _ _ => .bad, mt := cmt, cs := ccs, sx := csx }
/-- road -/
def b_f3_0 : S :=
    (.ife (.b (.and_ (.e (.prim .eq (.cons (.v 7) (.cons (.v 5) .nil)))) (.e (.brw 3 (.prim .notin (.cons (.v 8) (.cons (.v 3) .nil)))))))
          (.seq (.setI 3 [] (.v 8) (.e (.brw 3 (.prim .add (.cons (.prim .ix (.cons (.v 3) (.cons (.v 5) .nil))) (.cons (.lst (.cons (.v 6) .nil)) .nil))))))
          (.mut none .list 4 [] .append [(.e (.v 8))]))
          .skip)
def b_f3_1 : S :=
    b_f3_0
def b_f3_2 : S :=
    (.seq (.mut (some (.one 5)) .list 4 [] .popAt [(.e (.c (.int 0)))])
      (.for_ (.tup [(.one 6), (.one 7), (.one 8), (.one 9), (.one 10)]) .lst (.cons (.v 0) .nil) b_f3_1))
def b_f3 : S :=
    (.seq (.ife (.b (.e (.prim .eq (.cons (.v 1) (.cons (.v 2) .nil)))))
      (.ret (.e (.lst .nil)))
      .skip)
    (.seq (.asg (.one 3) (.e (.prim .dkv (.cons (.v 1) (.cons (.lst .nil) .nil)))))
    (.seq (.asg (.one 4) (.e (.lst (.cons (.v 1) .nil))))
    (.seq (.whl (.b (.e (.brw 4 (.prim .ne (.cons (.v 4) (.cons (.lst .nil) .nil)))))) b_f3_2)
    (.frz 3 (.ret (.e (.pm .dict .get1 (.v 3) (.cons (.v 2) .nil)))))))))
def run_f3 : List D → RF := runF pg0 moF fuel ⟨3, 11, b_f3⟩
def pg_f3 : Pg := { pg0 with cal := fun s => if s = fid 3 then run_f3 else pg0.cal s }
/-- Net.arrows -/
def c_f18_0 : E :=
    (.prim .ix (.cons (.prim (.fld "drawn_arrows") (.cons (.v 0) .nil)) (.cons (.v 1) .nil)))
def b_f18 : S :=
    (.ret (.e (.lc [1] (.one 1) .lst (.cons (.prim .sorted (.cons (.prim (.fld "drawn_arrows") (.cons (.v 0) .nil)) .nil)) .nil) .tt c_f18_0)))
def run_f18 : List D → RF := runF pg_f3 moF fuel ⟨1, 2, b_f18⟩
def pg_f18 : Pg := { pg_f3 with cal := fun s => if s = fid 18 then run_f18 else pg_f3.cal s }
/-- split_arrows -/
def b_f4_0 : S :=
    (.ife (.b (.e (.brw 1 (.prim .isNon (.cons (.call (fid 3) [] (.cons (.v 1) (.cons (.frz (.prim .ix (.cons (.v 3) (.cons (.c (.int 2)) .nil)))) (.cons (.frz (.prim .ix (.cons (.v 3) (.cons (.c (.int 1)) .nil)))) .nil)))) .nil)))))
        (.mut none .list 1 [] .append [(.e (.v 3))])
        (.mut none .list 2 [] .append [(.e (.v 3))]))
def b_f4_1 : S :=
    b_f4_0
def b_f4 : S :=
    (.seq (.asg (.one 1) (.e (.lst .nil)))
    (.seq (.asg (.one 2) (.e (.lst .nil)))
    (.seq (.for_ (.one 3) .lst (.cons (.meth "arrows" [] (.v 0) .nil) .nil) b_f4_1)
    (.ret (.tup (.cons (.mv 1) (.cons (.mv 2) .nil)))))))
def run_f4 : List D → RF := runF pg_f18 moF fuel ⟨1, 4, b_f4⟩
def pg_f4 : Pg := { pg_f18 with cal := fun s => if s = fid 4 then run_f4 else pg_f18.cal s }
/-- turned -/
def c_f5_0 : E :=
    (.prim .ix (.cons (.v 1) (.cons (.c (.int 0)) .nil)))
def b_f5 : S :=
    (.ret (.e (.lc [1] (.one 1) .lst (.cons (.prim .ix (.cons (.call (fid 4) [] (.cons (.v 0) .nil)) (.cons (.c (.int 1)) .nil))) .nil) .tt c_f5_0)))
def run_f5 : List D → RF := runF pg_f4 moF fuel ⟨1, 2, b_f5⟩
def pg_f5 : Pg := { pg_f4 with cal := fun s => if s = fid 5 then run_f5 else pg_f4.cal s }
/-- is_name -/
def c_f6_0 : E :=
    (.prim .in_ (.cons (.v 1) (.cons (.c (.str "abcdefghijklmnopqrstuvwxyz")) .nil)))
def b_f6 : S :=
    (.ret (.e (.and_ (.chain (.c (.int 1)) (.prim .len (.cons (.v 0) .nil)) (.c (.int 8))) (.prim .all (.cons (.lc [1] (.one 1) .lst (.cons (.v 0) .nil) .tt c_f6_0) .nil)))))
def run_f6 : List D → RF := runF pg_f5 moF fuel ⟨1, 2, b_f6⟩
def pg_f6 : Pg := { pg_f5 with cal := fun s => if s = fid 6 then run_f6 else pg_f5.cal s }
/-- in_range -/
def b_f7_0 : S :=
    (.ife (.b (.or_ (.e (.prim .lt (.cons (.v 0) (.cons (.v 1) .nil)))) (.e (.prim .gt (.cons (.v 0) (.cons (.v 2) .nil))))))
      .never
      .skip)
def b_f7 : S :=
    b_f7_0
def run_f7 : List D → RF := runF pg_f6 moF fuel ⟨3, 3, b_f7⟩
def pg_f7 : Pg := { pg_f6 with cal := fun s => if s = fid 7 then run_f7 else pg_f6.cal s }
/-- room_for_one -/
def b_f8_0 : S :=
    (.ife (.b (.e (.prim .ge (.cons (.v 0) (.cons (.v 1) .nil)))))
      .never
      .skip)
def b_f8 : S :=
    b_f8_0
def run_f8 : List D → RF := runF pg_f7 moF fuel ⟨2, 2, b_f8⟩
def pg_f8 : Pg := { pg_f7 with cal := fun s => if s = fid 8 then run_f8 else pg_f7.cal s }
/-- Net.__init__ -/
def b_f9 : S :=
    (.seq (.setF 0 [] "halves" (.e (.prim .dnew .nil)))
    (.seq (.setF 0 [] "drawn_arrows" (.e (.prim .dnew .nil)))
    (.seq (.setF 0 [] "given" (.e (.c (.int 0))))
    (.seq (.setF 0 [] "level_pairs" (.e (.lst .nil)))
    (.setF 0 [] "near_pairs" (.e (.lst .nil)))))))
def run_f9 : List D → RF := runF pg_f8 moF fuel ⟨1, 1, b_f9⟩
def pg_f9 : Pg := { pg_f8 with cal := fun s => if s = fid 9 then run_f9 else pg_f8.cal s }
/-- Net.both_there -/
def b_f10_0 : S :=
    (.ife (.b (.e (.prim .notin (.cons (.v 3) (.cons (.prim (.fld "halves") (.cons (.v 0) .nil)) .nil)))))
        .never
        .skip)
def b_f10_1 : S :=
    b_f10_0
def b_f10_2 : S :=
    (.ife (.b (.e (.prim .eq (.cons (.v 1) (.cons (.v 2) .nil)))))
      .never
      .skip)
def b_f10 : S :=
    (.seq (.for_ (.one 3) .lst (.cons (.tup (.cons (.v 1) (.cons (.v 2) .nil))) .nil) b_f10_1)
    b_f10_2)
def run_f10 : List D → RF := runF pg_f9 moF fuel ⟨3, 4, b_f10⟩
def pg_f10 : Pg := { pg_f9 with cal := fun s => if s = fid 10 then run_f10 else pg_f9.cal s }
/-- Net.put_point -/
def b_f11_0 : S :=
    (.ife (.b (.not_ (.e (.call (fid 6) [] (.cons (.v 1) .nil)))))
      .never
      .skip)
def b_f11_1 : S :=
    (.ife (.b (.e (.brw 0 (.prim .in_ (.cons (.v 1) (.cons (.prim (.fld "halves") (.cons (.v 0) .nil)) .nil))))))
      .never
      .skip)
def b_f11 : S :=
    (.seq b_f11_0
    (.seq b_f11_1
    (.seq (.drop (.e (.call (fid 7) [] (.cons (.v 2) (.cons (.c (.int 0)) (.cons (.c (.int 50)) .nil))))))
    (.seq (.drop (.e (.brw 0 (.call (fid 8) [] (.cons (.prim .len (.cons (.prim (.fld "halves") (.cons (.v 0) .nil)) .nil)) (.cons (.c (.int 20)) .nil))))))
    (.setI 0 [.fld "halves"] (.v 1) (.e (.v 2)))))))
def run_f11 : List D → RF := runF pg_f10 moF fuel ⟨3, 3, b_f11⟩
def pg_f11 : Pg := { pg_f10 with cal := fun s => if s = fid 11 then run_f11 else pg_f10.cal s }
/-- Net.put_arrow -/
def b_f12 : S :=
    (.seq (.drop (.e (.brw 0 (.meth "both_there" [] (.v 0) (.cons (.v 1) (.cons (.v 2) .nil))))))
    (.seq (.drop (.e (.call (fid 7) [] (.cons (.v 3) (.cons (.c (.int 1)) (.cons (.c (.int 20)) .nil))))))
    (.seq (.drop (.e (.call (fid 7) [] (.cons (.v 4) (.cons (.c (.int 1)) (.cons (.prim .pow (.cons (.c (.int 10)) (.cons (.c (.int 6)) .nil))) .nil))))))
    (.seq (.drop (.e (.brw 0 (.call (fid 8) [] (.cons (.prim .len (.cons (.prim (.fld "drawn_arrows") (.cons (.v 0) .nil)) .nil)) (.cons (.c (.int 40)) .nil))))))
    (.seq (.asg (.one 5) (.frz (.e (.brw 0 (.prim (.fld "given") (.cons (.v 0) .nil))))))
    (.seq (.setI 0 [.fld "drawn_arrows"] (.v 5) (.e (.tup (.cons (.v 5) (.cons (.v 1) (.cons (.v 2) (.cons (.v 3) (.cons (.v 4) .nil))))))))
    (.seq (.setF 0 [] "given" (.e (.prim .add (.cons (.v 5) (.cons (.c (.int 1)) .nil)))))
    (.ret (.e (.v 5))))))))))
def run_f12 : List D → RF := runF pg_f11 moF fuel ⟨5, 6, b_f12⟩
def pg_f12 : Pg := { pg_f11 with cal := fun s => if s = fid 12 then run_f12 else pg_f11.cal s }
/-- Net.take_arrow -/
def b_f15_0 : S :=
    (.ife (.b (.e (.brw 0 (.prim .notin (.cons (.v 1) (.cons (.prim (.fld "drawn_arrows") (.cons (.v 0) .nil)) .nil))))))
      .never
      .skip)
def b_f15 : S :=
    (.seq b_f15_0
    (.mut none .dict 0 [.fld "drawn_arrows"] .popK [(.e (.v 1))]))
def run_f15 : List D → RF := runF pg_f12 moF fuel ⟨2, 2, b_f15⟩
def pg_f15 : Pg := { pg_f12 with cal := fun s => if s = fid 15 then run_f15 else pg_f12.cal s }
/-- _law_cell_at -/
def b_f21 : S :=
    (.seq (.ife (.b (.e (.prim .lt (.cons (.v 1) (.cons (.prim .len (.cons (.v 0) .nil)) .nil)))))
      (.ret (.e (.prim .ix (.cons (.v 0) (.cons (.v 1) .nil)))))
      .skip)
    (.ret (.e (.c (.int 0)))))
def run_f21 : List D → RF := runF pg_f15 moF fuel ⟨2, 2, b_f21⟩
def pg_f21 : Pg := { pg_f15 with cal := fun s => if s = fid 21 then run_f21 else pg_f15.cal s }
/-- _law_mixed -/
def b_f22 : S :=
    (.seq (.asg (.one 2) (.e (.prim .mod (.cons (.prim .mul (.cons (.prim .add (.cons (.prim .add (.cons (.v 0) (.cons (.prim .mul (.cons (.c (.int 7919)) (.cons (.v 1) .nil))) .nil))) (.cons (.c (.int 1)) .nil))) (.cons (.c (.int 48271)) .nil))) (.cons (.c (.int 2147483647)) .nil)))))
    (.ret (.e (.prim .mod (.cons (.prim .mul (.cons (.v 2) (.cons (.prim .add (.cons (.prim .fdiv (.cons (.v 2) (.cons (.c (.int 1009)) .nil))) (.cons (.c (.int 69621)) .nil))) .nil))) (.cons (.c (.int 2147483647)) .nil))))))
def run_f22 : List D → RF := runF pg_f21 moF fuel ⟨2, 3, b_f22⟩
def pg_f22 : Pg := { pg_f21 with cal := fun s => if s = fid 22 then run_f22 else pg_f21.cal s }
/-- _law_names -/
def c_f23_0 : E :=
    (.prim .ix (.cons (.c (.str "abcdefghijklmnopqrstuvwxyz")) (.cons (.prim .mod (.cons (.call (fid 22) [] (.cons (.v 0) (.cons (.v 3) .nil))) (.cons (.c (.int 26)) .nil))) .nil)))
def c_f23_1 : E :=
    (.prim .add (.cons (.prim .add (.cons (.prim (.sl false true) (.cons (.v 1) (.cons (.v 2) .nil))) (.cons (.prim .ix (.cons (.c (.str "bcdefghij")) (.cons (.v 3) .nil))) .nil))) (.cons (.prim (.sl true false) (.cons (.v 1) (.cons (.v 2) .nil))) .nil)))
def b_f23 : S :=
    (.seq (.asg (.one 1) (.frz (.e (.pm .str .join (.c (.str "")) (.cons (.lc [3] (.one 3) .rng1 (.cons (.prim .mod (.cons (.v 0) (.cons (.c (.int 7)) .nil))) .nil) .tt c_f23_0) .nil)))))
    (.seq (.asg (.one 2) (.e (.prim .mod (.cons (.prim .fdiv (.cons (.v 0) (.cons (.c (.int 7)) .nil))) (.cons (.prim .add (.cons (.prim .len (.cons (.v 1) .nil)) (.cons (.c (.int 1)) .nil))) .nil)))))
    (.ret (.e (.lc [3] (.one 3) .rng1 (.cons (.prim .add (.cons (.c (.int 1)) (.cons (.prim .mod (.cons (.prim .fdiv (.cons (.v 0) (.cons (.c (.int 49)) .nil))) (.cons (.c (.int 9)) .nil))) .nil))) .nil) .tt c_f23_1)))))
def run_f23 : List D → RF := runF pg_f22 moF fuel ⟨1, 4, b_f23⟩
def pg_f23 : Pg := { pg_f22 with cal := fun s => if s = fid 23 then run_f23 else pg_f22.cal s }
/-- _law_net -/
def b_f24_0 : S :=
    (.drop (.meth "put_point" [.int 0] (.io 2 []) [(.e (.v 3))]))
def b_f24_1 : S :=
    (.ife (.b (.e (.prim .gt (.cons (.prim .len (.cons (.v 1) .nil)) (.cons (.c (.int 1)) .nil)))))
        (.seq (.asg (.one 5) (.e (.prim .mod (.cons (.call (fid 22) [] (.cons (.v 4) (.cons (.c (.int 1)) .nil))) (.cons (.prim .len (.cons (.v 1) .nil)) .nil)))))
        (.seq (.asg (.one 6) (.e (.prim .mod (.cons (.prim .add (.cons (.prim .add (.cons (.v 5) (.cons (.c (.int 1)) .nil))) (.cons (.prim .mod (.cons (.call (fid 22) [] (.cons (.v 4) (.cons (.c (.int 2)) .nil))) (.cons (.prim .sub (.cons (.prim .len (.cons (.v 1) .nil)) (.cons (.c (.int 1)) .nil))) .nil))) .nil))) (.cons (.prim .len (.cons (.v 1) .nil)) .nil)))))
        (.drop (.meth "put_arrow" [] (.io 2 []) [(.e (.frz (.prim .ix (.cons (.v 1) (.cons (.v 5) .nil))))), (.e (.frz (.prim .ix (.cons (.v 1) (.cons (.v 6) .nil))))), (.e (.frz (.prim .add (.cons (.c (.int 1)) (.cons (.prim .mod (.cons (.call (fid 22) [] (.cons (.v 4) (.cons (.c (.int 3)) .nil))) (.cons (.c (.int 20)) .nil))) .nil))))), (.e (.frz (.prim .add (.cons (.c (.int 1)) (.cons (.prim .mod (.cons (.v 4) (.cons (.prim .pow (.cons (.c (.int 10)) (.cons (.c (.int 6)) .nil))) .nil))) .nil)))))]))))
        .skip)
def b_f24_2 : S :=
    (.ife (.b (.and_ (.e (.prim .eq (.cons (.prim .mod (.cons (.call (fid 22) [] (.cons (.v 4) (.cons (.c (.int 4)) .nil))) (.cons (.c (.int 9)) .nil))) (.cons (.c (.int 0)) .nil)))) (.e (.brw 2 (.prim .ne (.cons (.meth "arrows" [] (.v 2) .nil) (.cons (.lst .nil) .nil)))))))
        (.drop (.meth "take_arrow" [] (.io 2 []) [(.e (.frz (.brw 2 (.prim .ix (.cons (.prim .ix (.cons (.meth "arrows" [] (.v 2) .nil) (.cons (.prim .mod (.cons (.call (fid 22) [] (.cons (.v 4) (.cons (.c (.int 5)) .nil))) (.cons (.prim .len (.cons (.meth "arrows" [] (.v 2) .nil) .nil)) .nil))) .nil))) (.cons (.c (.int 0)) .nil))))))]))
        .skip)
def b_f24_3 : S :=
    (.seq b_f24_1
      b_f24_2)
def b_f24 : S :=
    (.seq (.asg (.one 1) (.frz (.e (.call (fid 23) [] (.cons (.frz (.call (fid 21) [] (.cons (.v 0) (.cons (.c (.int 0)) .nil)))) .nil)))))
    (.seq (.asg (.one 2) (.e (.make (cid 8) (fid 9) [] .nil)))
    (.seq (.for_ (.one 3) .lst (.cons (.v 1) .nil) b_f24_0)
    (.seq (.for_ (.one 4) .lst (.cons (.prim (.sl true true) (.cons (.v 0) (.cons (.c (.int 2)) (.cons (.c (.int 32)) .nil)))) .nil) b_f24_3)
    (.ret (.mv 2))))))
def run_f24 : List D → RF := runF pg_f23 moF fuel ⟨1, 7, b_f24⟩
def pg_f24 : Pg := { pg_f23 with cal := fun s => if s = fid 24 then run_f24 else pg_f23.cal s }
/-- _law_leads -/
def b_f25_0 : S :=
    (.ife (.b (.and_ (.e (.brw 3 (.prim .eq (.cons (.prim .ix (.cons (.v 5) (.cons (.c (.int 1)) .nil))) (.cons (.prim .ix (.cons (.v 3) (.cons (.v 4) .nil))) .nil))))) (.e (.brw 3 (.prim .notin (.cons (.prim .ix (.cons (.v 5) (.cons (.c (.int 2)) .nil))) (.cons (.v 3) .nil)))))))
          (.mut none .list 3 [] .append [(.e (.prim .ix (.cons (.v 5) (.cons (.c (.int 2)) .nil))))])
          .skip)
def b_f25_1 : S :=
    b_f25_0
def b_f25_2 : S :=
    (.seq (.for_ (.one 5) .lst (.cons (.v 0) .nil) b_f25_1)
      (.asg (.one 4) (.frz (.e (.prim .add (.cons (.v 4) (.cons (.c (.int 1)) .nil)))))))
def b_f25 : S :=
    (.seq (.asg (.one 3) (.e (.lst (.cons (.v 1) .nil))))
    (.seq (.asg (.one 4) (.e (.c (.int 0))))
    (.seq (.whl (.b (.e (.brw 3 (.prim .lt (.cons (.v 4) (.cons (.prim .len (.cons (.v 3) .nil)) .nil)))))) b_f25_2)
    (.frz 3 (.ret (.e (.prim .in_ (.cons (.v 2) (.cons (.v 3) .nil)))))))))
def run_f25 : List D → RF := runF pg_f24 moF fuel ⟨3, 6, b_f25⟩
def pg_f25 : Pg := { pg_f24 with cal := fun s => if s = fid 25 then run_f25 else pg_f24.cal s }
/-- _law_due -/
def b_f26_0 : S :=
    (.ife (.b (.e (.brw 1 (.call (fid 25) [] (.cons (.v 1) (.cons (.frz (.prim .ix (.cons (.v 3) (.cons (.c (.int 2)) .nil)))) (.cons (.frz (.prim .ix (.cons (.v 3) (.cons (.c (.int 1)) .nil)))) .nil)))))))
        (.mut none .list 2 [] .append [(.e (.prim .ix (.cons (.v 3) (.cons (.c (.int 0)) .nil))))])
        (.mut none .list 1 [] .append [(.e (.v 3))]))
def b_f26_1 : S :=
    b_f26_0
def b_f26 : S :=
    (.seq (.asg (.one 1) (.e (.lst .nil)))
    (.seq (.asg (.one 2) (.e (.lst .nil)))
    (.seq (.for_ (.one 3) .lst (.cons (.v 0) .nil) b_f26_1)
    (.ret (.mv 2)))))
def run_f26 : List D → RF := runF pg_f25 moF fuel ⟨1, 4, b_f26⟩
def pg_f26 : Pg := { pg_f25 with cal := fun s => if s = fid 26 then run_f26 else pg_f25.cal s }
/-- _law_right -/
def c_f27_0 : B :=
    (.e (.prim (.isT "bool") (.cons (.v 4) .nil)))
def b_f27 : S :=
    (.seq (.asg (.one 1) (.frz (.e (.meth "arrows" [] (.v 0) .nil))))
    (.seq (.asg (.one 2) (.frz (.e (.call (fid 26) [] (.cons (.v 1) .nil)))))
    (.seq (.asg (.one 3) (.e (.call (fid 5) [] (.cons (.v 0) .nil))))
    (.seq (.ife (.b (.or_ (.not_ (.e (.brw 3 (.prim (.isT "list") (.cons (.v 3) .nil))))) (.e (.brw 3 (.prim .ne (.cons (.v 3) (.cons (.v 2) .nil)))))))
      (.ret (.e (.c (.bl false))))
      .skip)
    (.seq (.ife (.b (.e (.brw 3 (.prim .ne (.cons (.lc [4] (.one 4) .lst (.cons (.v 3) .nil) c_f27_0 (.v 4)) (.cons (.lst .nil) .nil))))))
      (.ret (.e (.c (.bl false))))
      .skip)
    (.seq (.mut none .list 3 [] .append [(.e (.c (.int 0)))])
    (.ret (.e (.and_ (.prim .eq (.cons (.call (fid 5) [] (.cons (.v 0) .nil)) (.cons (.v 2) .nil))) (.prim .eq (.cons (.meth "arrows" [] (.v 0) .nil) (.cons (.v 1) .nil))))))))))))
def run_f27 : List D → RF := runF pg_f26 moF fuel ⟨1, 5, b_f27⟩
def pg_f27 : Pg := { pg_f26 with cal := fun s => if s = fid 27 then run_f27 else pg_f26.cal s }
/-- law -/
def c_f28_0 : E :=
    (.prim .ix (.cons (.v 4) (.cons (.c (.int 0)) .nil)))
def c_f28_1 : B :=
    (.e (.prim .notin (.cons (.prim .ix (.cons (.v 4) (.cons (.c (.int 0)) .nil))) (.cons (.v 2) .nil))))
def b_f28_0 : S :=
    (.ife (.b (.e (.prim .ne (.cons (.v 3) (.cons (.lst .nil) .nil)))))
      (.drop (.meth "take_arrow" [] (.io 1 []) [(.e (.frz (.prim .ix (.cons (.v 3) (.cons (.prim .mod (.cons (.call (fid 21) [] (.cons (.v 0) (.cons (.c (.int 1)) .nil))) (.cons (.prim .len (.cons (.v 3) .nil)) .nil))) .nil)))))]))
      .skip)
def b_f28_1 : S :=
    (.ife (.b (.e (.prim .ne (.cons (.v 2) (.cons (.lst .nil) .nil)))))
      (.drop (.meth "take_arrow" [] (.io 1 []) [(.e (.frz (.prim .ix (.cons (.v 2) (.cons (.c (.int 0)) .nil)))))]))
      .skip)
def b_f28 : S :=
    (.seq (.asg (.one 1) (.e (.call (fid 24) [] (.cons (.v 0) .nil))))
    (.seq (.ife (.b (.not_ (.e (.brw 1 (.call (fid 27) [] (.cons (.v 1) .nil))))))
      (.ret (.e (.c (.bl false))))
      .skip)
    (.seq (.asg (.one 2) (.frz (.e (.brw 1 (.call (fid 5) [] (.cons (.v 1) .nil))))))
    (.seq (.asg (.one 3) (.frz (.e (.brw 1 (.lc [4] (.one 4) .lst (.cons (.meth "arrows" [] (.v 1) .nil) .nil) c_f28_1 c_f28_0)))))
    (.seq b_f28_0
    (.seq (.ife (.b (.not_ (.e (.brw 1 (.call (fid 27) [] (.cons (.v 1) .nil))))))
      (.ret (.e (.c (.bl false))))
      .skip)
    (.seq (.asg (.one 2) (.frz (.e (.brw 1 (.call (fid 5) [] (.cons (.v 1) .nil))))))
    (.seq b_f28_1
    (.frz 1 (.ret (.e (.call (fid 27) [] (.cons (.v 1) .nil)))))))))))))
def run_f28 : List D → RF := runF pg_f27 moF fuel ⟨1, 5, b_f28⟩
def pg_f28 : Pg := { pg_f27 with cal := fun s => if s = fid 28 then run_f28 else pg_f27.cal s }
@[simp] theorem cmt_8_arrows : cmt (cid 8) "arrows" = some (fid 18) := by decide +kernel
@[simp] theorem cmt_8_both_there : cmt (cid 8) "both_there" = some (fid 10) := by decide +kernel
@[simp] theorem cmt_8_put_arrow : cmt (cid 8) "put_arrow" = some (fid 12) := by decide +kernel
@[simp] theorem cmt_8_put_point : cmt (cid 8) "put_point" = some (fid 11) := by decide +kernel
@[simp] theorem cmt_8_take_arrow : cmt (cid 8) "take_arrow" = some (fid 15) := by decide +kernel
@[simp] theorem pg0_f : pg0.f = opF csub := id rfl
@[simp] theorem pg0_fi : pg0.fi = itF := id rfl
@[simp] theorem pg0_cs : pg0.cs = ccs := id rfl
@[simp] theorem pg0_mt : pg0.mt = cmt := id rfl
@[simp] theorem pg0_sx : pg0.sx = csx := id rfl
@[simp] theorem pg_f10_f : pg_f10.f = opF csub := id rfl
@[simp] theorem pg_f10_fi : pg_f10.fi = itF := id rfl
@[simp] theorem pg_f10_cs : pg_f10.cs = ccs := id rfl
@[simp] theorem pg_f10_mt : pg_f10.mt = cmt := id rfl
@[simp] theorem pg_f10_sx : pg_f10.sx = csx := id rfl
@[simp] theorem pg_f11_f : pg_f11.f = opF csub := id rfl
@[simp] theorem pg_f11_fi : pg_f11.fi = itF := id rfl
@[simp] theorem pg_f11_cs : pg_f11.cs = ccs := id rfl
@[simp] theorem pg_f11_mt : pg_f11.mt = cmt := id rfl
@[simp] theorem pg_f11_sx : pg_f11.sx = csx := id rfl
@[simp] theorem pg_f12_f : pg_f12.f = opF csub := id rfl
@[simp] theorem pg_f12_fi : pg_f12.fi = itF := id rfl
@[simp] theorem pg_f12_cs : pg_f12.cs = ccs := id rfl
@[simp] theorem pg_f12_mt : pg_f12.mt = cmt := id rfl
@[simp] theorem pg_f12_sx : pg_f12.sx = csx := id rfl
@[simp] theorem pg_f15_f : pg_f15.f = opF csub := id rfl
@[simp] theorem pg_f15_fi : pg_f15.fi = itF := id rfl
@[simp] theorem pg_f15_cs : pg_f15.cs = ccs := id rfl
@[simp] theorem pg_f15_mt : pg_f15.mt = cmt := id rfl
@[simp] theorem pg_f15_sx : pg_f15.sx = csx := id rfl
@[simp] theorem pg_f18_f : pg_f18.f = opF csub := id rfl
@[simp] theorem pg_f18_fi : pg_f18.fi = itF := id rfl
@[simp] theorem pg_f18_cs : pg_f18.cs = ccs := id rfl
@[simp] theorem pg_f18_mt : pg_f18.mt = cmt := id rfl
@[simp] theorem pg_f18_sx : pg_f18.sx = csx := id rfl
@[simp] theorem pg_f21_f : pg_f21.f = opF csub := id rfl
@[simp] theorem pg_f21_fi : pg_f21.fi = itF := id rfl
@[simp] theorem pg_f21_cs : pg_f21.cs = ccs := id rfl
@[simp] theorem pg_f21_mt : pg_f21.mt = cmt := id rfl
@[simp] theorem pg_f21_sx : pg_f21.sx = csx := id rfl
@[simp] theorem pg_f22_f : pg_f22.f = opF csub := id rfl
@[simp] theorem pg_f22_fi : pg_f22.fi = itF := id rfl
@[simp] theorem pg_f22_cs : pg_f22.cs = ccs := id rfl
@[simp] theorem pg_f22_mt : pg_f22.mt = cmt := id rfl
@[simp] theorem pg_f22_sx : pg_f22.sx = csx := id rfl
@[simp] theorem pg_f23_f : pg_f23.f = opF csub := id rfl
@[simp] theorem pg_f23_fi : pg_f23.fi = itF := id rfl
@[simp] theorem pg_f23_cs : pg_f23.cs = ccs := id rfl
@[simp] theorem pg_f23_mt : pg_f23.mt = cmt := id rfl
@[simp] theorem pg_f23_sx : pg_f23.sx = csx := id rfl
@[simp] theorem pg_f24_f : pg_f24.f = opF csub := id rfl
@[simp] theorem pg_f24_fi : pg_f24.fi = itF := id rfl
@[simp] theorem pg_f24_cs : pg_f24.cs = ccs := id rfl
@[simp] theorem pg_f24_mt : pg_f24.mt = cmt := id rfl
@[simp] theorem pg_f24_sx : pg_f24.sx = csx := id rfl
@[simp] theorem pg_f25_f : pg_f25.f = opF csub := id rfl
@[simp] theorem pg_f25_fi : pg_f25.fi = itF := id rfl
@[simp] theorem pg_f25_cs : pg_f25.cs = ccs := id rfl
@[simp] theorem pg_f25_mt : pg_f25.mt = cmt := id rfl
@[simp] theorem pg_f25_sx : pg_f25.sx = csx := id rfl
@[simp] theorem pg_f26_f : pg_f26.f = opF csub := id rfl
@[simp] theorem pg_f26_fi : pg_f26.fi = itF := id rfl
@[simp] theorem pg_f26_cs : pg_f26.cs = ccs := id rfl
@[simp] theorem pg_f26_mt : pg_f26.mt = cmt := id rfl
@[simp] theorem pg_f26_sx : pg_f26.sx = csx := id rfl
@[simp] theorem pg_f27_f : pg_f27.f = opF csub := id rfl
@[simp] theorem pg_f27_fi : pg_f27.fi = itF := id rfl
@[simp] theorem pg_f27_cs : pg_f27.cs = ccs := id rfl
@[simp] theorem pg_f27_mt : pg_f27.mt = cmt := id rfl
@[simp] theorem pg_f27_sx : pg_f27.sx = csx := id rfl
@[simp] theorem pg_f3_f : pg_f3.f = opF csub := id rfl
@[simp] theorem pg_f3_fi : pg_f3.fi = itF := id rfl
@[simp] theorem pg_f3_cs : pg_f3.cs = ccs := id rfl
@[simp] theorem pg_f3_mt : pg_f3.mt = cmt := id rfl
@[simp] theorem pg_f3_sx : pg_f3.sx = csx := id rfl
@[simp] theorem pg_f4_f : pg_f4.f = opF csub := id rfl
@[simp] theorem pg_f4_fi : pg_f4.fi = itF := id rfl
@[simp] theorem pg_f4_cs : pg_f4.cs = ccs := id rfl
@[simp] theorem pg_f4_mt : pg_f4.mt = cmt := id rfl
@[simp] theorem pg_f4_sx : pg_f4.sx = csx := id rfl
@[simp] theorem pg_f5_f : pg_f5.f = opF csub := id rfl
@[simp] theorem pg_f5_fi : pg_f5.fi = itF := id rfl
@[simp] theorem pg_f5_cs : pg_f5.cs = ccs := id rfl
@[simp] theorem pg_f5_mt : pg_f5.mt = cmt := id rfl
@[simp] theorem pg_f5_sx : pg_f5.sx = csx := id rfl
@[simp] theorem pg_f6_f : pg_f6.f = opF csub := id rfl
@[simp] theorem pg_f6_fi : pg_f6.fi = itF := id rfl
@[simp] theorem pg_f6_cs : pg_f6.cs = ccs := id rfl
@[simp] theorem pg_f6_mt : pg_f6.mt = cmt := id rfl
@[simp] theorem pg_f6_sx : pg_f6.sx = csx := id rfl
@[simp] theorem pg_f7_f : pg_f7.f = opF csub := id rfl
@[simp] theorem pg_f7_fi : pg_f7.fi = itF := id rfl
@[simp] theorem pg_f7_cs : pg_f7.cs = ccs := id rfl
@[simp] theorem pg_f7_mt : pg_f7.mt = cmt := id rfl
@[simp] theorem pg_f7_sx : pg_f7.sx = csx := id rfl
@[simp] theorem pg_f8_f : pg_f8.f = opF csub := id rfl
@[simp] theorem pg_f8_fi : pg_f8.fi = itF := id rfl
@[simp] theorem pg_f8_cs : pg_f8.cs = ccs := id rfl
@[simp] theorem pg_f8_mt : pg_f8.mt = cmt := id rfl
@[simp] theorem pg_f8_sx : pg_f8.sx = csx := id rfl
@[simp] theorem pg_f9_f : pg_f9.f = opF csub := id rfl
@[simp] theorem pg_f9_fi : pg_f9.fi = itF := id rfl
@[simp] theorem pg_f9_cs : pg_f9.cs = ccs := id rfl
@[simp] theorem pg_f9_mt : pg_f9.mt = cmt := id rfl
@[simp] theorem pg_f9_sx : pg_f9.sx = csx := id rfl
theorem at_f3 (x0 x1 x2 : D) : run_f3 [x0, x1, x2] = endF [0, 1, 2] 3 (runS pg0 moF fuel b_f3 [some x0, some x1, some x2, none, none, none, none, none, none, none, none]) := id rfl
theorem at_f18 (x0 : D) : run_f18 [x0] = endF [0] 1 (runS pg_f3 moF fuel b_f18 [some x0, none]) := id rfl
@[simp] theorem pg_f18_c3 : pg_f18.cal (fid 3) = run_f3 := id rfl
@[simp] theorem pg_f18_c18 : pg_f18.cal (fid 18) = run_f18 := id rfl
theorem at_f4 (x0 : D) : run_f4 [x0] = endF [0] 1 (runS pg_f18 moF fuel b_f4 [some x0, none, none, none]) := id rfl
@[simp] theorem pg_f4_c4 : pg_f4.cal (fid 4) = run_f4 := id rfl
theorem at_f5 (x0 : D) : run_f5 [x0] = endF [0] 1 (runS pg_f4 moF fuel b_f5 [some x0, none]) := id rfl
theorem at_f6 (x0 : D) : run_f6 [x0] = endF [0] 1 (runS pg_f5 moF fuel b_f6 [some x0, none]) := id rfl
theorem at_f7 (x0 x1 x2 : D) : run_f7 [x0, x1, x2] = endF [0, 1, 2] 3 (runS pg_f6 moF fuel b_f7 [some x0, some x1, some x2]) := id rfl
theorem at_f8 (x0 x1 : D) : run_f8 [x0, x1] = endF [0, 1] 2 (runS pg_f7 moF fuel b_f8 [some x0, some x1]) := id rfl
theorem at_f9 (x0 : D) : run_f9 [x0] = endF [0] 1 (runS pg_f8 moF fuel b_f9 [some x0]) := id rfl
theorem at_f10 (x0 x1 x2 : D) : run_f10 [x0, x1, x2] = endF [0, 1, 2] 3 (runS pg_f9 moF fuel b_f10 [some x0, some x1, some x2, none]) := id rfl
@[simp] theorem pg_f10_c6 : pg_f10.cal (fid 6) = run_f6 := id rfl
@[simp] theorem pg_f10_c7 : pg_f10.cal (fid 7) = run_f7 := id rfl
@[simp] theorem pg_f10_c8 : pg_f10.cal (fid 8) = run_f8 := id rfl
theorem at_f11 (x0 x1 x2 : D) : run_f11 [x0, x1, x2] = endF [0, 1, 2] 3 (runS pg_f10 moF fuel b_f11 [some x0, some x1, some x2]) := id rfl
@[simp] theorem pg_f11_c7 : pg_f11.cal (fid 7) = run_f7 := id rfl
@[simp] theorem pg_f11_c8 : pg_f11.cal (fid 8) = run_f8 := id rfl
@[simp] theorem pg_f11_c10 : pg_f11.cal (fid 10) = run_f10 := id rfl
theorem at_f12 (x0 x1 x2 x3 x4 : D) : run_f12 [x0, x1, x2, x3, x4] = endF [0, 1, 2, 3, 4] 5 (runS pg_f11 moF fuel b_f12 [some x0, some x1, some x2, some x3, some x4, none]) := id rfl
theorem at_f15 (x0 x1 : D) : run_f15 [x0, x1] = endF [0, 1] 2 (runS pg_f12 moF fuel b_f15 [some x0, some x1]) := id rfl
theorem at_f21 (x0 x1 : D) : run_f21 [x0, x1] = endF [0, 1] 2 (runS pg_f15 moF fuel b_f21 [some x0, some x1]) := id rfl
theorem at_f22 (x0 x1 : D) : run_f22 [x0, x1] = endF [0, 1] 2 (runS pg_f21 moF fuel b_f22 [some x0, some x1, none]) := id rfl
@[simp] theorem pg_f22_c22 : pg_f22.cal (fid 22) = run_f22 := id rfl
theorem at_f23 (x0 : D) : run_f23 [x0] = endF [0] 1 (runS pg_f22 moF fuel b_f23 [some x0, none, none, none]) := id rfl
@[simp] theorem pg_f23_c9 : pg_f23.cal (fid 9) = run_f9 := id rfl
@[simp] theorem pg_f23_c11 : pg_f23.cal (fid 11) = run_f11 := id rfl
@[simp] theorem pg_f23_c12 : pg_f23.cal (fid 12) = run_f12 := id rfl
@[simp] theorem pg_f23_c15 : pg_f23.cal (fid 15) = run_f15 := id rfl
@[simp] theorem pg_f23_c18 : pg_f23.cal (fid 18) = run_f18 := id rfl
@[simp] theorem pg_f23_c21 : pg_f23.cal (fid 21) = run_f21 := id rfl
@[simp] theorem pg_f23_c22 : pg_f23.cal (fid 22) = run_f22 := id rfl
@[simp] theorem pg_f23_c23 : pg_f23.cal (fid 23) = run_f23 := id rfl
theorem at_f24 (x0 : D) : run_f24 [x0] = endF [0] 1 (runS pg_f23 moF fuel b_f24 [some x0, none, none, none, none, none, none]) := id rfl
theorem at_f25 (x0 x1 x2 : D) : run_f25 [x0, x1, x2] = endF [0, 1, 2] 3 (runS pg_f24 moF fuel b_f25 [some x0, some x1, some x2, none, none, none]) := id rfl
@[simp] theorem pg_f25_c25 : pg_f25.cal (fid 25) = run_f25 := id rfl
theorem at_f26 (x0 : D) : run_f26 [x0] = endF [0] 1 (runS pg_f25 moF fuel b_f26 [some x0, none, none, none]) := id rfl
@[simp] theorem pg_f26_c5 : pg_f26.cal (fid 5) = run_f5 := id rfl
@[simp] theorem pg_f26_c18 : pg_f26.cal (fid 18) = run_f18 := id rfl
@[simp] theorem pg_f26_c26 : pg_f26.cal (fid 26) = run_f26 := id rfl
theorem at_f27 (x0 : D) : run_f27 [x0] = endF [0] 1 (runS pg_f26 moF fuel b_f27 [some x0, none, none, none, none]) := id rfl
@[simp] theorem pg_f27_c5 : pg_f27.cal (fid 5) = run_f5 := id rfl
@[simp] theorem pg_f27_c15 : pg_f27.cal (fid 15) = run_f15 := id rfl
@[simp] theorem pg_f27_c18 : pg_f27.cal (fid 18) = run_f18 := id rfl
@[simp] theorem pg_f27_c21 : pg_f27.cal (fid 21) = run_f21 := id rfl
@[simp] theorem pg_f27_c24 : pg_f27.cal (fid 24) = run_f24 := id rfl
@[simp] theorem pg_f27_c27 : pg_f27.cal (fid 27) = run_f27 := id rfl
theorem at_f28 (x0 : D) : run_f28 [x0] = endF [0] 1 (runS pg_f27 moF fuel b_f28 [some x0, none, none, none, none]) := id rfl
end LD
namespace LD
open PySem PySem.Spec PyProof.Rows L2
section
variable {Pr : Program} {w : World} {K : PySem.W.Frag} {mg : Str → Option Value} {base : Heap}
/-! ### what the top has written -/
structure Txt (K : PySem.W.Frag) (mg : Str → Option Value) (C8 : Addr) (a3 a18 a4 a5 a6 a7 a8 a9 a10 a11 a12 a15 a21 a22 a23 a24 a25 a26 a27 a28 : Addr) : Prop where
  b_all : mg "all" = none
  b_bool : mg "bool" = none
  b_isinstance : mg "isinstance" = none
  b_len : mg "len" = none
  b_list : mg "list" = none
  b_range : mg "range" = none
  b_sorted : mg "sorted" = none
  c_LETTERS : ∃ t, mg "LETTERS" = some (.str "abcdefghijklmnopqrstuvwxyz" t)
  c_MOST_ARROWS : ∃ t, mg "MOST_ARROWS" = some (.int 40 t)
  c_MOST_POINTS : ∃ t, mg "MOST_POINTS" = some (.int 20 t)
  g_Net : mg "Net" = some (.ref C8)
  xm : ∀ b c k, csx b c = some k → ∃ B C, (ctF C8) b = some B ∧ (ctF C8) c = some C ∧ PySem.W.exmOne K (.ref B) (.ref C) = some k
  mk_Net : Mk K C8 a9
  g_f3 : mg "road" = some (.ref a3)
  g_f4 : mg "split_arrows" = some (.ref a4)
  g_f5 : mg "turned" = some (.ref a5)
  g_f6 : mg "is_name" = some (.ref a6)
  g_f7 : mg "in_range" = some (.ref a7)
  g_f8 : mg "room_for_one" = some (.ref a8)
  g_f21 : mg "_law_cell_at" = some (.ref a21)
  g_f22 : mg "_law_mixed" = some (.ref a22)
  g_f23 : mg "_law_names" = some (.ref a23)
  g_f24 : mg "_law_net" = some (.ref a24)
  g_f25 : mg "_law_leads" = some (.ref a25)
  g_f26 : mg "_law_due" = some (.ref a26)
  g_f27 : mg "_law_right" = some (.ref a27)
  g_f28 : mg "law" = some (.ref a28)
  F_f3 : ∃ fd, Fun K "road" "road" (topS 11) a3 fd
  F_f18 : ∃ fd, Fun K "arrows" "Net.arrows" (inClass (topS 21) 9) a18 fd
  F_f4 : ∃ fd, Fun K "split_arrows" "split_arrows" (topS 12) a4 fd
  F_f5 : ∃ fd, Fun K "turned" "turned" (topS 13) a5 fd
  F_f6 : ∃ fd, Fun K "is_name" "is_name" (topS 18) a6 fd
  F_f7 : ∃ fd, Fun K "in_range" "in_range" (topS 19) a7 fd
  F_f8 : ∃ fd, Fun K "room_for_one" "room_for_one" (topS 20) a8 fd
  F_f9 : ∃ fd, Fun K "__init__" "Net.__init__" (inClass (topS 21) 0) a9 fd
  F_f10 : ∃ fd, Fun K "both_there" "Net.both_there" (inClass (topS 21) 1) a10 fd
  F_f11 : ∃ fd, FunD K "put_point" "Net.put_point" (defArgs (inClass (topS 21) 2)) (defBody (inClass (topS 21) 2)) (defScope (inClass (topS 21) 2)) [.int 0] [] a11 fd
  F_f12 : ∃ fd, FunD K "put_arrow" "Net.put_arrow" (defArgs (inClass (topS 21) 3)) (defBody (inClass (topS 21) 3)) (defScope (inClass (topS 21) 3)) [.int 1, .int 1] [] a12 fd
  F_f15 : ∃ fd, Fun K "take_arrow" "Net.take_arrow" (inClass (topS 21) 6) a15 fd
  F_f21 : ∃ fd, Fun K "_law_cell_at" "_law_cell_at" (topS 23) a21 fd
  F_f22 : ∃ fd, Fun K "_law_mixed" "_law_mixed" (topS 24) a22 fd
  F_f23 : ∃ fd, Fun K "_law_names" "_law_names" (topS 25) a23 fd
  F_f24 : ∃ fd, Fun K "_law_net" "_law_net" (topS 26) a24 fd
  F_f25 : ∃ fd, Fun K "_law_leads" "_law_leads" (topS 27) a25 fd
  F_f26 : ∃ fd, Fun K "_law_due" "_law_due" (topS 28) a26 fd
  F_f27 : ∃ fd, Fun K "_law_right" "_law_right" (topS 29) a27 fd
  F_f28 : ∃ fd, Fun K "law" "law" (topS 30) a28 fd
  cf : Cf K (ctF C8) csub
  na_drawn_arrows : Na K (ctF C8) "drawn_arrows"
  na_given : Na K (ctF C8) "given"
  na_halves : Na K (ctF C8) "halves"
  na_level_pairs : Na K (ctF C8) "level_pairs"
  na_near_pairs : Na K (ctF C8) "near_pairs"
  m_Net_arrows : Meth K C8 "arrows" a18
  m_Net_both_there : Meth K C8 "both_there" a10
  m_Net_put_arrow : Meth K C8 "put_arrow" a12
  m_Net_put_point : Meth K C8 "put_point" a11
  m_Net_take_arrow : Meth K C8 "take_arrow" a15
variable {C8 : Addr} {a3 a18 a4 a5 a6 a7 a8 a9 a10 a11 a12 a15 a21 a22 a23 a24 a25 a26 a27 a28 : Addr}
theorem ct_Net : (ctF C8) (cid 8) = some C8 := rfl
theorem ctAll {P : Str → Addr → Prop} (h8 : P (cid 8) C8) : ∀ s a, (ctF C8) s = some a → P s a := by
  intro s a h
  unfold ctF at h
  split at h
  · rename_i e
    cases h
    have : s = cid 8 := by
      obtain ⟨cps⟩ := s
      exact congrArg Str.mk (Array.toList_inj.mp e)
    subst this
    exact h8
  · cases h
theorem fit (T : Txt K mg C8 a3 a18 a4 a5 a6 a7 a8 a9 a10 a11 a12 a15 a21 a22 a23 a24 a25 a26 a27 a28) (z : Hp) (P : Pg) (h1 : P.f = opF csub) (h2 : P.fi = itF) (h3 : P.cs = ccs) (h4 : P.sx = csx) : Fit (ops K (ctF C8) csub ⟨T.cf, z⟩) P := by
  refine ⟨h1, h2, fun c hc => ?_, fun b c k h => T.xm b c k (by rw [h4] at h; exact h)⟩
  rw [h3] at hc
  have m : c ∈ ccs := by simpa using hc
  simp only [List.mem_cons, List.not_mem_nil, or_false] at m
  subst m
  exact ⟨_, ct_Net⟩
theorem sc_f3 : FnScope ["arrows", "one", "other", "ways", "queue", "here", "number", "start", "goal", "span", "weight"] ["arrows", "one", "other"] (defScope (topS 11)) := ⟨rfl, rfl, rfl, by decide +kernel, rfl, by decide +kernel, by decide +kernel⟩
theorem der_f3 (T : Txt K mg C8 a3 a18 a4 a5 a6 a7 a8 a9 a10 a11 a12 a15 a21 a22 a23 a24 a25 a26 a27 a28)  {fd : FuncData} (F : Fun K "road" "road" (topS 11) a3 fd) : FnOk Pr w K mg base (L2.CX Pr w) 1 a3 fd ["arrows", "one", "other"] (spR K (ctF C8) run_f3) := by
  refine fn_ok T.cf (fun z => fit T z pg0 rfl rfl rfl rfl) F sc_f3 (by decide) rfl rfl (fun cdv A outer s H E hr => ?_)
  have hN := sc_f3.nd
  exact (s_cons (s_if (u_b (t_eq hr (d_v 1) (d_v 2)))
      (s_last (s_ret (c_e (d_lst d_nil))))
      s_nil)
    (s_cons (s_set 3 hN (c_e (d_dkv (kv_cons (d_v 1) (d_lst d_nil) kv_nil))))
    (s_cons (s_set 4 hN (c_e (d_lst (d_cons (d_v 1) d_nil))))
    (s_cons (s_whl (passes_of rfl) (u_b (t_brw 4 (t_ne hr (d_v 4) (d_lst d_nil))))
      (s_cons (s_mutN 5 hN (mu_1 PySem.F.plainAttrs_list PySem.F.slot_list_pop PySem.F.type_list_pop mt_popAt (p_v 4) (a_cons (a_e d_int) a_nil)))
      (s_last (s_for (passes_of rfl) rfl (i_any (d_v 0)) (g_tup rfl (g_cons (g_one 6 hN) (g_cons (g_one 7 hN) (g_cons (g_one 8 hN) (g_cons (g_one 9 hN) (g_cons (g_one 10 hN) g_nil))))))
        (s_last (s_if (u_b (t_w (w_and (t_eq hr (d_v 7) (d_v 5)) (w_and1 (t_brw 3 (t_notin hr (d_v 8) (d_v 3)))))))
          (s_cons (s_setI hr (c_e (d_brw 3 (d_add (d_ix hr (d_v 3) (d_v 5)) (d_lst (d_cons (d_v 6) d_nil))))) (p_v 3) (d_v 8))
          (s_last (s_mut (mu_1 PySem.F.plainAttrs_list PySem.F.slot_list_append PySem.F.type_list_append mt_append (p_v 4) (a_cons (a_e (d_v 8)) a_nil)))))
          s_nil))))))
    (s_frzs 3 (s_last (s_ret (c_e (m_get1 hr (d_v 3) (d_cons (d_v 2) d_nil))))))))))
theorem ok_f3 (T : Txt K mg C8 a3 a18 a4 a5 a6 a7 a8 a9 a10 a11 a12 a15 a21 a22 a23 a24 a25 a26 a27 a28)  : CalOk Pr w K mg base (ctF C8) 1 run_f3 a3 [] := by
  obtain ⟨fd, F⟩ := T.F_f3
  exact ⟨fd, _, [], der_f3 T  F, F.binds (ps := ["arrows", "one", "other"]) fun _ _ _ _ _ _ us hl => match us, hl with | [_, _, _], _ => rfl, .nil, F.kp⟩
theorem sc_f18 : FnScope ["self", "number"] ["self"] (defScope (inClass (topS 21) 9)) := ⟨rfl, rfl, rfl, by decide +kernel, rfl, by decide +kernel, by decide +kernel⟩
theorem der_f18 (T : Txt K mg C8 a3 a18 a4 a5 a6 a7 a8 a9 a10 a11 a12 a15 a21 a22 a23 a24 a25 a26 a27 a28)  {fd : FuncData} (F : Fun K "arrows" "Net.arrows" (inClass (topS 21) 9) a18 fd) : FnOk Pr w K mg base (L2.CX Pr w) 1 a18 fd ["self"] (spR K (ctF C8) run_f18) := by
  refine fn_ok T.cf (fun z => fit T z pg_f3 rfl rfl rfl rfl) F sc_f18 (by decide) rfl rfl (fun cdv A outer s H E hr => ?_)
  have hN := sc_f18.nd
  exact (s_last (s_ret (c_e (d_lc [("number", 1)] rfl hN (i_any (b_sorted rfl T.b_sorted (d_cons (d_fld T.na_drawn_arrows (d_v 0)) d_nil))) (blkOk_by rfl) (fun _ _ _ _ _ => (g_one 1 hN)) (fun _ _ _ _ _ => q_nil) (fun _ _ _ _ _ => (d_ix hr (d_fld T.na_drawn_arrows (d_v 0)) (d_v 1)))))))
theorem ok_f18 (T : Txt K mg C8 a3 a18 a4 a5 a6 a7 a8 a9 a10 a11 a12 a15 a21 a22 a23 a24 a25 a26 a27 a28)  : CalOk Pr w K mg base (ctF C8) 1 run_f18 a18 [] := by
  obtain ⟨fd, F⟩ := T.F_f18
  exact ⟨fd, _, [], der_f18 T  F, F.binds (ps := ["self"]) fun _ _ _ _ _ _ us hl => match us, hl with | [_], _ => rfl, .nil, F.kp⟩
theorem sc_f4 : FnScope ["net", "kept", "about", "row"] ["net"] (defScope (topS 12)) := ⟨rfl, rfl, rfl, by decide +kernel, rfl, by decide +kernel, by decide +kernel⟩
theorem der_f4 (T : Txt K mg C8 a3 a18 a4 a5 a6 a7 a8 a9 a10 a11 a12 a15 a21 a22 a23 a24 a25 a26 a27 a28) (ok_f18 : CalOk Pr w K mg base (ctF C8) 1 run_f18 a18 []) (ok_f3 : CalOk Pr w K mg base (ctF C8) 1 run_f3 a3 []) (met_arrows : MetOk Pr w K mg base (ctF C8) pg_f18 1 "arrows" []) {fd : FuncData} (F : Fun K "split_arrows" "split_arrows" (topS 12) a4 fd) : FnOk Pr w K mg base (L2.CX Pr w) 2 a4 fd ["net"] (spR K (ctF C8) run_f4) := by
  refine fn_ok T.cf (fun z => fit T z pg_f18 rfl rfl rfl rfl) F sc_f4 (by decide) rfl rfl (fun cdv A outer s H E hr => ?_)
  have hN := sc_f4.nd
  exact (s_cons (s_set 1 hN (c_e (d_lst d_nil)))
    (s_cons (s_set 2 hN (c_e (d_lst d_nil)))
    (s_cons (s_for (passes_of rfl) rfl (i_any (d_meth0 (met_arrows) (hr.mono (by decide)) (takes_of rfl rfl rfl rfl) (d_v 0))) (g_one 3 hN)
      (s_last (s_if (u_b (t_brw 1 (t_isN (d_call (ok_f3) rfl (hr.mono (by decide)) (takes_of rfl rfl rfl rfl) T.g_f3 (d_cons (d_v 1) (d_cons (d_frz (d_ix hr (d_v 3) d_int)) (d_cons (d_frz (d_ix hr (d_v 3) d_int)) d_nil)))))))
        (s_last (s_mut (mu_1 PySem.F.plainAttrs_list PySem.F.slot_list_append PySem.F.type_list_append mt_append (p_v 1) (a_cons (a_e (d_v 3)) a_nil))))
        (s_last (s_mut (mu_1 PySem.F.plainAttrs_list PySem.F.slot_list_append PySem.F.type_list_append mt_append (p_v 2) (a_cons (a_e (d_v 3)) a_nil)))))))
    (s_last (s_ret (c_tup (c_cons (c_mv 1) (c_cons (c_mv 2) c_nil))))))))
theorem ok_f4 (T : Txt K mg C8 a3 a18 a4 a5 a6 a7 a8 a9 a10 a11 a12 a15 a21 a22 a23 a24 a25 a26 a27 a28) (ok_f18 : CalOk Pr w K mg base (ctF C8) 1 run_f18 a18 []) (ok_f3 : CalOk Pr w K mg base (ctF C8) 1 run_f3 a3 []) (met_arrows : MetOk Pr w K mg base (ctF C8) pg_f18 1 "arrows" []) : CalOk Pr w K mg base (ctF C8) 2 run_f4 a4 [] := by
  obtain ⟨fd, F⟩ := T.F_f4
  exact ⟨fd, _, [], der_f4 T ok_f18 ok_f3 met_arrows F, F.binds (ps := ["net"]) fun _ _ _ _ _ _ us hl => match us, hl with | [_], _ => rfl, .nil, F.kp⟩
theorem sc_f5 : FnScope ["net", "row"] ["net"] (defScope (topS 13)) := ⟨rfl, rfl, rfl, by decide +kernel, rfl, by decide +kernel, by decide +kernel⟩
theorem der_f5 (T : Txt K mg C8 a3 a18 a4 a5 a6 a7 a8 a9 a10 a11 a12 a15 a21 a22 a23 a24 a25 a26 a27 a28) (ok_f4 : CalOk Pr w K mg base (ctF C8) 2 run_f4 a4 []) {fd : FuncData} (F : Fun K "turned" "turned" (topS 13) a5 fd) : FnOk Pr w K mg base (L2.CX Pr w) 3 a5 fd ["net"] (spR K (ctF C8) run_f5) := by
  refine fn_ok T.cf (fun z => fit T z pg_f4 rfl rfl rfl rfl) F sc_f5 (by decide) rfl rfl (fun cdv A outer s H E hr => ?_)
  have hN := sc_f5.nd
  exact (s_last (s_ret (c_e (d_lc [("row", 1)] rfl hN (i_any (d_ix hr (d_call (ok_f4) rfl (hr.mono (by decide)) (takes_of rfl rfl rfl rfl) T.g_f4 (d_cons (d_v 0) d_nil)) d_int)) (blkOk_by rfl) (fun _ _ _ _ _ => (g_one 1 hN)) (fun _ _ _ _ _ => q_nil) (fun _ _ _ _ _ => (d_ix hr (d_v 1) d_int))))))
theorem ok_f5 (T : Txt K mg C8 a3 a18 a4 a5 a6 a7 a8 a9 a10 a11 a12 a15 a21 a22 a23 a24 a25 a26 a27 a28) (ok_f4 : CalOk Pr w K mg base (ctF C8) 2 run_f4 a4 []) : CalOk Pr w K mg base (ctF C8) 3 run_f5 a5 [] := by
  obtain ⟨fd, F⟩ := T.F_f5
  exact ⟨fd, _, [], der_f5 T ok_f4 F, F.binds (ps := ["net"]) fun _ _ _ _ _ _ us hl => match us, hl with | [_], _ => rfl, .nil, F.kp⟩
theorem sc_f6 : FnScope ["name", "sign"] ["name"] (defScope (topS 18)) := ⟨rfl, rfl, rfl, by decide +kernel, rfl, by decide +kernel, by decide +kernel⟩
theorem der_f6 (T : Txt K mg C8 a3 a18 a4 a5 a6 a7 a8 a9 a10 a11 a12 a15 a21 a22 a23 a24 a25 a26 a27 a28)  {fd : FuncData} (F : Fun K "is_name" "is_name" (topS 18) a6 fd) : FnOk Pr w K mg base (L2.CX Pr w) 1 a6 fd ["name"] (spR K (ctF C8) run_f6) := by
  refine fn_ok T.cf (fun z => fit T z pg_f5 rfl rfl rfl rfl) F sc_f6 (by decide) rfl rfl (fun cdv A outer s H E hr => ?_)
  have hN := sc_f6.nd
  exact (s_last (s_ret (c_e (d_and (d_chain d_int (b_len T.b_len (d_cons (d_v 0) d_nil)) d_int) (d_one (b_all rfl T.b_all (d_cons (d_lc [("sign", 1)] rfl hN (i_any (d_v 0)) (blkOk_by rfl) (fun _ _ _ _ _ => (g_one 1 hN)) (fun _ _ _ _ _ => q_nil) (fun _ _ _ _ _ => (d_in_ hr (d_v 1) (d_globS T.c_LETTERS)))) d_nil)))))))
theorem ok_f6 (T : Txt K mg C8 a3 a18 a4 a5 a6 a7 a8 a9 a10 a11 a12 a15 a21 a22 a23 a24 a25 a26 a27 a28)  : CalOk Pr w K mg base (ctF C8) 1 run_f6 a6 [] := by
  obtain ⟨fd, F⟩ := T.F_f6
  exact ⟨fd, _, [], der_f6 T  F, F.binds (ps := ["name"]) fun _ _ _ _ _ _ us hl => match us, hl with | [_], _ => rfl, .nil, F.kp⟩
theorem sc_f7 : FnScope ["number", "least", "most"] ["number", "least", "most"] (defScope (topS 19)) := ⟨rfl, rfl, rfl, by decide +kernel, rfl, by decide +kernel, by decide +kernel⟩
theorem der_f7 (T : Txt K mg C8 a3 a18 a4 a5 a6 a7 a8 a9 a10 a11 a12 a15 a21 a22 a23 a24 a25 a26 a27 a28)  {fd : FuncData} (F : Fun K "in_range" "in_range" (topS 19) a7 fd) : FnOk Pr w K mg base (L2.CX Pr w) 1 a7 fd ["number", "least", "most"] (spR K (ctF C8) run_f7) := by
  refine fn_ok T.cf (fun z => fit T z pg_f6 rfl rfl rfl rfl) F sc_f7 (by decide) rfl rfl (fun cdv A outer s H E hr => ?_)
  have hN := sc_f7.nd
  exact (s_last (s_if (u_b (t_w (w_or (t_lt (d_v 0) (d_v 1)) (w_or1 (t_gt (d_v 0) (d_v 2))))))
      (s_last s_never)
      s_nil))
theorem ok_f7 (T : Txt K mg C8 a3 a18 a4 a5 a6 a7 a8 a9 a10 a11 a12 a15 a21 a22 a23 a24 a25 a26 a27 a28)  : CalOk Pr w K mg base (ctF C8) 1 run_f7 a7 [] := by
  obtain ⟨fd, F⟩ := T.F_f7
  exact ⟨fd, _, [], der_f7 T  F, F.binds (ps := ["number", "least", "most"]) fun _ _ _ _ _ _ us hl => match us, hl with | [_, _, _], _ => rfl, .nil, F.kp⟩
theorem sc_f8 : FnScope ["many", "most"] ["many", "most"] (defScope (topS 20)) := ⟨rfl, rfl, rfl, by decide +kernel, rfl, by decide +kernel, by decide +kernel⟩
theorem der_f8 (T : Txt K mg C8 a3 a18 a4 a5 a6 a7 a8 a9 a10 a11 a12 a15 a21 a22 a23 a24 a25 a26 a27 a28)  {fd : FuncData} (F : Fun K "room_for_one" "room_for_one" (topS 20) a8 fd) : FnOk Pr w K mg base (L2.CX Pr w) 1 a8 fd ["many", "most"] (spR K (ctF C8) run_f8) := by
  refine fn_ok T.cf (fun z => fit T z pg_f7 rfl rfl rfl rfl) F sc_f8 (by decide) rfl rfl (fun cdv A outer s H E hr => ?_)
  have hN := sc_f8.nd
  exact (s_last (s_if (u_b (t_ge (d_v 0) (d_v 1)))
      (s_last s_never)
      s_nil))
theorem ok_f8 (T : Txt K mg C8 a3 a18 a4 a5 a6 a7 a8 a9 a10 a11 a12 a15 a21 a22 a23 a24 a25 a26 a27 a28)  : CalOk Pr w K mg base (ctF C8) 1 run_f8 a8 [] := by
  obtain ⟨fd, F⟩ := T.F_f8
  exact ⟨fd, _, [], der_f8 T  F, F.binds (ps := ["many", "most"]) fun _ _ _ _ _ _ us hl => match us, hl with | [_, _], _ => rfl, .nil, F.kp⟩
theorem sc_f9 : FnScope ["self"] ["self"] (defScope (inClass (topS 21) 0)) := ⟨rfl, rfl, rfl, by decide +kernel, rfl, by decide +kernel, by decide +kernel⟩
theorem der_f9 (T : Txt K mg C8 a3 a18 a4 a5 a6 a7 a8 a9 a10 a11 a12 a15 a21 a22 a23 a24 a25 a26 a27 a28)  {fd : FuncData} (F : Fun K "__init__" "Net.__init__" (inClass (topS 21) 0) a9 fd) : FnOk Pr w K mg base (L2.CX Pr w) 1 a9 fd ["self"] (spR K (ctF C8) run_f9) := by
  refine fn_ok T.cf (fun z => fit T z pg_f8 rfl rfl rfl rfl) F sc_f9 (by decide) rfl rfl (fun cdv A outer s H E hr => ?_)
  have hN := sc_f9.nd
  exact (s_cons (s_setF T.na_halves (c_e d_dnew) (p_v 0))
    (s_cons (s_setF T.na_drawn_arrows (c_e d_dnew) (p_v 0))
    (s_cons (s_setF T.na_given (c_e d_int) (p_v 0))
    (s_cons (s_setF T.na_level_pairs (c_e (d_lst d_nil)) (p_v 0))
    (s_last (s_setF T.na_near_pairs (c_e (d_lst d_nil)) (p_v 0)))))))
theorem ok_f9 (T : Txt K mg C8 a3 a18 a4 a5 a6 a7 a8 a9 a10 a11 a12 a15 a21 a22 a23 a24 a25 a26 a27 a28)  : CalOk Pr w K mg base (ctF C8) 1 run_f9 a9 [] := by
  obtain ⟨fd, F⟩ := T.F_f9
  exact ⟨fd, _, [], der_f9 T  F, F.binds (ps := ["self"]) fun _ _ _ _ _ _ us hl => match us, hl with | [_], _ => rfl, .nil, F.kp⟩
theorem sc_f10 : FnScope ["self", "one", "other", "name"] ["self", "one", "other"] (defScope (inClass (topS 21) 1)) := ⟨rfl, rfl, rfl, by decide +kernel, rfl, by decide +kernel, by decide +kernel⟩
theorem der_f10 (T : Txt K mg C8 a3 a18 a4 a5 a6 a7 a8 a9 a10 a11 a12 a15 a21 a22 a23 a24 a25 a26 a27 a28)  {fd : FuncData} (F : Fun K "both_there" "Net.both_there" (inClass (topS 21) 1) a10 fd) : FnOk Pr w K mg base (L2.CX Pr w) 1 a10 fd ["self", "one", "other"] (spR K (ctF C8) run_f10) := by
  refine fn_ok T.cf (fun z => fit T z pg_f9 rfl rfl rfl rfl) F sc_f10 (by decide) rfl rfl (fun cdv A outer s H E hr => ?_)
  have hN := sc_f10.nd
  exact (s_cons (s_for (passes_of rfl) rfl (i_any (d_tup (d_cons (d_v 1) (d_cons (d_v 2) d_nil)))) (g_one 3 hN)
      (s_last (s_if (u_b (t_notin hr (d_v 3) (d_fld T.na_halves (d_v 0))))
        (s_last s_never)
        s_nil)))
    (s_last (s_if (u_b (t_eq hr (d_v 1) (d_v 2)))
      (s_last s_never)
      s_nil)))
theorem ok_f10 (T : Txt K mg C8 a3 a18 a4 a5 a6 a7 a8 a9 a10 a11 a12 a15 a21 a22 a23 a24 a25 a26 a27 a28)  : CalOk Pr w K mg base (ctF C8) 1 run_f10 a10 [] := by
  obtain ⟨fd, F⟩ := T.F_f10
  exact ⟨fd, _, [], der_f10 T  F, F.binds (ps := ["self", "one", "other"]) fun _ _ _ _ _ _ us hl => match us, hl with | [_, _, _], _ => rfl, .nil, F.kp⟩
theorem sc_f11 : FnScope ["self", "name", "half"] ["self", "name", "half"] (defScope (inClass (topS 21) 2)) := ⟨rfl, rfl, rfl, by decide +kernel, rfl, by decide +kernel, by decide +kernel⟩
theorem der_f11 (T : Txt K mg C8 a3 a18 a4 a5 a6 a7 a8 a9 a10 a11 a12 a15 a21 a22 a23 a24 a25 a26 a27 a28) (ok_f6 : CalOk Pr w K mg base (ctF C8) 1 run_f6 a6 []) (ok_f7 : CalOk Pr w K mg base (ctF C8) 1 run_f7 a7 []) (ok_f8 : CalOk Pr w K mg base (ctF C8) 1 run_f8 a8 []) {fd : FuncData} (F : FunD K "put_point" "Net.put_point" (defArgs (inClass (topS 21) 2)) (defBody (inClass (topS 21) 2)) (defScope (inClass (topS 21) 2)) [.int 0] [] a11 fd) : FnOk Pr w K mg base (L2.CX Pr w) 2 a11 fd ["self", "name", "half"] (spR K (ctF C8) run_f11) := by
  refine fn_okD T.cf (fun z => fit T z pg_f10 rfl rfl rfl rfl) F sc_f11 (by decide) rfl rfl (fun cdv A outer s H E hr => ?_)
  have hN := sc_f11.nd
  exact (s_cons (s_if (u_b (t_not (t_val (d_call (ok_f6) rfl (hr.mono (by decide)) (takes_of rfl rfl rfl rfl) T.g_f6 (d_cons (d_v 1) d_nil)))))
      (s_last s_never)
      s_nil)
    (s_cons (s_if (u_b (t_brw 0 (t_in_ hr (d_v 1) (d_fld T.na_halves (d_v 0)))))
      (s_last s_never)
      s_nil)
    (s_cons (s_drop (c_e (d_call (ok_f7) rfl (hr.mono (by decide)) (takes_of rfl rfl rfl rfl) T.g_f7 (d_cons (d_v 2) (d_cons d_int (d_cons d_int d_nil))))))
    (s_cons (s_drop (c_e (d_brw 0 (d_call (ok_f8) rfl (hr.mono (by decide)) (takes_of rfl rfl rfl rfl) T.g_f8 (d_cons (b_len T.b_len (d_cons (d_fld T.na_halves (d_v 0)) d_nil)) (d_cons (d_globI T.c_MOST_POINTS) d_nil))))))
    (s_last (s_setI hr (c_e (d_v 2)) (p_fld T.na_halves (p_v 0)) (d_v 1)))))))
theorem ok_f11 (T : Txt K mg C8 a3 a18 a4 a5 a6 a7 a8 a9 a10 a11 a12 a15 a21 a22 a23 a24 a25 a26 a27 a28) (ok_f6 : CalOk Pr w K mg base (ctF C8) 1 run_f6 a6 []) (ok_f7 : CalOk Pr w K mg base (ctF C8) 1 run_f7 a7 []) (ok_f8 : CalOk Pr w K mg base (ctF C8) 1 run_f8 a8 []) : CalOk Pr w K mg base (ctF C8) 2 run_f11 a11 [] := by
  obtain ⟨fd, F⟩ := T.F_f11
  exact calD F (der_f11 T ok_f6 ok_f7 ok_f8 F) 3 1 (by simp) rfl (fun _ _ _ _ _ _ _ us its h1 h2 => match us, its, h1, h2 with | [_, _, _], [_], _, _ => ⟨_, rfl, rfl⟩) rfl
theorem ok_f11_d1 (T : Txt K mg C8 a3 a18 a4 a5 a6 a7 a8 a9 a10 a11 a12 a15 a21 a22 a23 a24 a25 a26 a27 a28) (ok_f6 : CalOk Pr w K mg base (ctF C8) 1 run_f6 a6 []) (ok_f7 : CalOk Pr w K mg base (ctF C8) 1 run_f7 a7 []) (ok_f8 : CalOk Pr w K mg base (ctF C8) 1 run_f8 a8 []) : CalOk Pr w K mg base (ctF C8) 2 run_f11 a11 [.int 0] := by
  obtain ⟨fd, F⟩ := T.F_f11
  exact calD F (der_f11 T ok_f6 ok_f7 ok_f8 F) 2 0 (by simp) rfl (fun _ _ _ _ _ _ _ us its h1 h2 => match us, its, h1, h2 with | [_, _], [_], _, _ => ⟨_, rfl, rfl⟩) rfl
theorem sc_f12 : FnScope ["self", "one", "other", "span", "weight", "number"] ["self", "one", "other", "span", "weight"] (defScope (inClass (topS 21) 3)) := ⟨rfl, rfl, rfl, by decide +kernel, rfl, by decide +kernel, by decide +kernel⟩
theorem der_f12 (T : Txt K mg C8 a3 a18 a4 a5 a6 a7 a8 a9 a10 a11 a12 a15 a21 a22 a23 a24 a25 a26 a27 a28) (ok_f10 : CalOk Pr w K mg base (ctF C8) 1 run_f10 a10 []) (ok_f7 : CalOk Pr w K mg base (ctF C8) 1 run_f7 a7 []) (ok_f8 : CalOk Pr w K mg base (ctF C8) 1 run_f8 a8 []) (met_both_there : MetOk Pr w K mg base (ctF C8) pg_f11 1 "both_there" []) {fd : FuncData} (F : FunD K "put_arrow" "Net.put_arrow" (defArgs (inClass (topS 21) 3)) (defBody (inClass (topS 21) 3)) (defScope (inClass (topS 21) 3)) [.int 1, .int 1] [] a12 fd) : FnOk Pr w K mg base (L2.CX Pr w) 2 a12 fd ["self", "one", "other", "span", "weight"] (spR K (ctF C8) run_f12) := by
  refine fn_okD T.cf (fun z => fit T z pg_f11 rfl rfl rfl rfl) F sc_f12 (by decide) rfl rfl (fun cdv A outer s H E hr => ?_)
  have hN := sc_f12.nd
  exact (s_cons (s_drop (c_e (d_brw 0 (d_meth (met_both_there) (hr.mono (by decide)) (takes_of rfl rfl rfl rfl) (d_v 0) (d_cons (d_v 1) (d_cons (d_v 2) d_nil))))))
    (s_cons (s_drop (c_e (d_call (ok_f7) rfl (hr.mono (by decide)) (takes_of rfl rfl rfl rfl) T.g_f7 (d_cons (d_v 3) (d_cons d_int (d_cons d_int d_nil))))))
    (s_cons (s_drop (c_e (d_call (ok_f7) rfl (hr.mono (by decide)) (takes_of rfl rfl rfl rfl) T.g_f7 (d_cons (d_v 4) (d_cons d_int (d_cons (d_pow d_int d_int) d_nil))))))
    (s_cons (s_drop (c_e (d_brw 0 (d_call (ok_f8) rfl (hr.mono (by decide)) (takes_of rfl rfl rfl rfl) T.g_f8 (d_cons (b_len T.b_len (d_cons (d_fld T.na_drawn_arrows (d_v 0)) d_nil)) (d_cons (d_globI T.c_MOST_ARROWS) d_nil))))))
    (s_cons (s_set 5 hN (c_frz (c_e (d_brw 0 (d_fld T.na_given (d_v 0))))))
    (s_cons (s_setI hr (c_e (d_tup (d_cons (d_v 5) (d_cons (d_v 1) (d_cons (d_v 2) (d_cons (d_v 3) (d_cons (d_v 4) d_nil))))))) (p_fld T.na_drawn_arrows (p_v 0)) (d_v 5))
    (s_cons (s_setF T.na_given (c_e (d_add (d_v 5) d_int)) (p_v 0))
    (s_last (s_ret (c_e (d_v 5)))))))))))
theorem ok_f12 (T : Txt K mg C8 a3 a18 a4 a5 a6 a7 a8 a9 a10 a11 a12 a15 a21 a22 a23 a24 a25 a26 a27 a28) (ok_f10 : CalOk Pr w K mg base (ctF C8) 1 run_f10 a10 []) (ok_f7 : CalOk Pr w K mg base (ctF C8) 1 run_f7 a7 []) (ok_f8 : CalOk Pr w K mg base (ctF C8) 1 run_f8 a8 []) (met_both_there : MetOk Pr w K mg base (ctF C8) pg_f11 1 "both_there" []) : CalOk Pr w K mg base (ctF C8) 2 run_f12 a12 [] := by
  obtain ⟨fd, F⟩ := T.F_f12
  exact calD F (der_f12 T ok_f10 ok_f7 ok_f8 met_both_there F) 5 2 (by simp) rfl (fun _ _ _ _ _ _ _ us its h1 h2 => match us, its, h1, h2 with | [_, _, _, _, _], [_, _], _, _ => ⟨_, rfl, rfl⟩) rfl
theorem sc_f15 : FnScope ["self", "number"] ["self", "number"] (defScope (inClass (topS 21) 6)) := ⟨rfl, rfl, rfl, by decide +kernel, rfl, by decide +kernel, by decide +kernel⟩
theorem der_f15 (T : Txt K mg C8 a3 a18 a4 a5 a6 a7 a8 a9 a10 a11 a12 a15 a21 a22 a23 a24 a25 a26 a27 a28)  {fd : FuncData} (F : Fun K "take_arrow" "Net.take_arrow" (inClass (topS 21) 6) a15 fd) : FnOk Pr w K mg base (L2.CX Pr w) 1 a15 fd ["self", "number"] (spR K (ctF C8) run_f15) := by
  refine fn_ok T.cf (fun z => fit T z pg_f12 rfl rfl rfl rfl) F sc_f15 (by decide) rfl rfl (fun cdv A outer s H E hr => ?_)
  have hN := sc_f15.nd
  exact (s_cons (s_if (u_b (t_brw 0 (t_notin hr (d_v 1) (d_fld T.na_drawn_arrows (d_v 0)))))
      (s_last s_never)
      s_nil)
    (s_last (s_mut (mu_1 PySem.F.plainAttrs_dict PySem.F.slot_dict_pop PySem.F.type_dict_pop mtq_popK (p_fld T.na_drawn_arrows (p_v 0)) (a_cons (a_e (d_v 1)) a_nil)))))
theorem ok_f15 (T : Txt K mg C8 a3 a18 a4 a5 a6 a7 a8 a9 a10 a11 a12 a15 a21 a22 a23 a24 a25 a26 a27 a28)  : CalOk Pr w K mg base (ctF C8) 1 run_f15 a15 [] := by
  obtain ⟨fd, F⟩ := T.F_f15
  exact ⟨fd, _, [], der_f15 T  F, F.binds (ps := ["self", "number"]) fun _ _ _ _ _ _ us hl => match us, hl with | [_, _], _ => rfl, .nil, F.kp⟩
theorem sc_f21 : FnScope ["_law_script", "_law_k"] ["_law_script", "_law_k"] (defScope (topS 23)) := ⟨rfl, rfl, rfl, by decide +kernel, rfl, by decide +kernel, by decide +kernel⟩
theorem der_f21 (T : Txt K mg C8 a3 a18 a4 a5 a6 a7 a8 a9 a10 a11 a12 a15 a21 a22 a23 a24 a25 a26 a27 a28)  {fd : FuncData} (F : Fun K "_law_cell_at" "_law_cell_at" (topS 23) a21 fd) : FnOk Pr w K mg base (L2.CX Pr w) 1 a21 fd ["_law_script", "_law_k"] (spR K (ctF C8) run_f21) := by
  refine fn_ok T.cf (fun z => fit T z pg_f15 rfl rfl rfl rfl) F sc_f21 (by decide) rfl rfl (fun cdv A outer s H E hr => ?_)
  have hN := sc_f21.nd
  exact (s_cons (s_if (u_b (t_lt (d_v 1) (b_len T.b_len (d_cons (d_v 0) d_nil))))
      (s_last (s_ret (c_e (d_ix hr (d_v 0) (d_v 1)))))
      s_nil)
    (s_last (s_ret (c_e d_int))))
theorem ok_f21 (T : Txt K mg C8 a3 a18 a4 a5 a6 a7 a8 a9 a10 a11 a12 a15 a21 a22 a23 a24 a25 a26 a27 a28)  : CalOk Pr w K mg base (ctF C8) 1 run_f21 a21 [] := by
  obtain ⟨fd, F⟩ := T.F_f21
  exact ⟨fd, _, [], der_f21 T  F, F.binds (ps := ["_law_script", "_law_k"]) fun _ _ _ _ _ _ us hl => match us, hl with | [_, _], _ => rfl, .nil, F.kp⟩
theorem sc_f22 : FnScope ["_law_cell", "_law_k", "_law_number"] ["_law_cell", "_law_k"] (defScope (topS 24)) := ⟨rfl, rfl, rfl, by decide +kernel, rfl, by decide +kernel, by decide +kernel⟩
theorem der_f22 (T : Txt K mg C8 a3 a18 a4 a5 a6 a7 a8 a9 a10 a11 a12 a15 a21 a22 a23 a24 a25 a26 a27 a28)  {fd : FuncData} (F : Fun K "_law_mixed" "_law_mixed" (topS 24) a22 fd) : FnOk Pr w K mg base (L2.CX Pr w) 1 a22 fd ["_law_cell", "_law_k"] (spR K (ctF C8) run_f22) := by
  refine fn_ok T.cf (fun z => fit T z pg_f21 rfl rfl rfl rfl) F sc_f22 (by decide) rfl rfl (fun cdv A outer s H E hr => ?_)
  have hN := sc_f22.nd
  exact (s_cons (s_set 2 hN (c_e (d_mod (d_mul (d_add (d_add (d_v 0) (d_mul d_int (d_v 1))) d_int) d_int) d_int)))
    (s_last (s_ret (c_e (d_mod (d_mul (d_v 2) (d_add (d_fdiv (d_v 2) d_int) d_int)) d_int)))))
theorem ok_f22 (T : Txt K mg C8 a3 a18 a4 a5 a6 a7 a8 a9 a10 a11 a12 a15 a21 a22 a23 a24 a25 a26 a27 a28)  : CalOk Pr w K mg base (ctF C8) 1 run_f22 a22 [] := by
  obtain ⟨fd, F⟩ := T.F_f22
  exact ⟨fd, _, [], der_f22 T  F, F.binds (ps := ["_law_cell", "_law_k"]) fun _ _ _ _ _ _ us hl => match us, hl with | [_, _], _ => rfl, .nil, F.kp⟩
theorem sc_f23 : FnScope ["_law_first", "_law_stem", "_law_at", "_law_k"] ["_law_first"] (defScope (topS 25)) := ⟨rfl, rfl, rfl, by decide +kernel, rfl, by decide +kernel, by decide +kernel⟩
theorem der_f23 (T : Txt K mg C8 a3 a18 a4 a5 a6 a7 a8 a9 a10 a11 a12 a15 a21 a22 a23 a24 a25 a26 a27 a28) (ok_f22 : CalOk Pr w K mg base (ctF C8) 1 run_f22 a22 []) {fd : FuncData} (F : Fun K "_law_names" "_law_names" (topS 25) a23 fd) : FnOk Pr w K mg base (L2.CX Pr w) 2 a23 fd ["_law_first"] (spR K (ctF C8) run_f23) := by
  refine fn_ok T.cf (fun z => fit T z pg_f22 rfl rfl rfl rfl) F sc_f23 (by decide) rfl rfl (fun cdv A outer s H E hr => ?_)
  have hN := sc_f23.nd
  exact (s_cons (s_set 1 hN (c_frz (c_e (m_join d_str (d_cons (d_lc [("_law_k", 3)] rfl hN (i_rng1 T.b_range (d_cons (d_mod (d_v 0) d_int) d_nil)) (blkOk_by rfl) (fun _ _ _ _ _ => (g_one 3 hN)) (fun _ _ _ _ _ => q_nil) (fun _ _ _ _ _ => (d_ix hr d_str (d_mod (d_call (ok_f22) rfl (hr.mono (by decide)) takes0 T.g_f22 (d_cons (d_v 0) (d_cons (d_v 3) d_nil))) d_int)))) d_nil)))))
    (s_cons (s_set 2 hN (c_e (d_mod (d_fdiv (d_v 0) d_int) (d_add (b_len T.b_len (d_cons (d_v 1) d_nil)) d_int))))
    (s_last (s_ret (c_e (d_lc [("_law_k", 3)] rfl hN (i_rng1 T.b_range (d_cons (d_add d_int (d_mod (d_fdiv (d_v 0) d_int) d_int)) d_nil)) (blkOk_by rfl) (fun _ _ _ _ _ => (g_one 3 hN)) (fun _ _ _ _ _ => q_nil) (fun _ _ _ _ _ => (d_add (d_add (d_sl01 (d_v 1) (d_v 2)) (d_ix hr d_str (d_v 3))) (d_sl10 (d_v 1) (d_v 2))))))))))
theorem ok_f23 (T : Txt K mg C8 a3 a18 a4 a5 a6 a7 a8 a9 a10 a11 a12 a15 a21 a22 a23 a24 a25 a26 a27 a28) (ok_f22 : CalOk Pr w K mg base (ctF C8) 1 run_f22 a22 []) : CalOk Pr w K mg base (ctF C8) 2 run_f23 a23 [] := by
  obtain ⟨fd, F⟩ := T.F_f23
  exact ⟨fd, _, [], der_f23 T ok_f22 F, F.binds (ps := ["_law_first"]) fun _ _ _ _ _ _ us hl => match us, hl with | [_], _ => rfl, .nil, F.kp⟩
theorem sc_f24 : FnScope ["_law_script", "_law_names_here", "_law_net_here", "_law_name", "_law_cell", "_law_one", "_law_other"] ["_law_script"] (defScope (topS 26)) := ⟨rfl, rfl, rfl, by decide +kernel, rfl, by decide +kernel, by decide +kernel⟩
theorem der_f24 (T : Txt K mg C8 a3 a18 a4 a5 a6 a7 a8 a9 a10 a11 a12 a15 a21 a22 a23 a24 a25 a26 a27 a28) (ok_f11_d1 : CalOk Pr w K mg base (ctF C8) 2 run_f11 a11 [.int 0]) (ok_f12 : CalOk Pr w K mg base (ctF C8) 2 run_f12 a12 []) (ok_f15 : CalOk Pr w K mg base (ctF C8) 1 run_f15 a15 []) (ok_f18 : CalOk Pr w K mg base (ctF C8) 1 run_f18 a18 []) (ok_f21 : CalOk Pr w K mg base (ctF C8) 1 run_f21 a21 []) (ok_f22 : CalOk Pr w K mg base (ctF C8) 1 run_f22 a22 []) (ok_f23 : CalOk Pr w K mg base (ctF C8) 2 run_f23 a23 []) (ok_f9 : CalOk Pr w K mg base (ctF C8) 1 run_f9 a9 []) (met_arrows : MetOk Pr w K mg base (ctF C8) pg_f23 1 "arrows" []) (met_put_arrow : MetOk Pr w K mg base (ctF C8) pg_f23 2 "put_arrow" []) (met_put_point_d1 : MetOk Pr w K mg base (ctF C8) pg_f23 2 "put_point" [.int 0]) (met_take_arrow : MetOk Pr w K mg base (ctF C8) pg_f23 1 "take_arrow" []) {fd : FuncData} (F : Fun K "_law_net" "_law_net" (topS 26) a24 fd) : FnOk Pr w K mg base (L2.CX Pr w) 3 a24 fd ["_law_script"] (spR K (ctF C8) run_f24) := by
  refine fn_ok T.cf (fun z => fit T z pg_f23 rfl rfl rfl rfl) F sc_f24 (by decide) rfl rfl (fun cdv A outer s H E hr => ?_)
  have hN := sc_f24.nd
  exact (s_cons (s_set 1 hN (c_frz (c_e (d_call (ok_f23) rfl (hr.mono (by decide)) (takes_of rfl rfl rfl rfl) T.g_f23 (d_cons (d_frz (d_call (ok_f21) rfl (hr.mono (by decide)) (takes_of rfl rfl rfl rfl) T.g_f21 (d_cons (d_v 0) (d_cons d_int d_nil)))) d_nil)))))
    (s_cons (s_set 2 hN (c_e (d_make0 T.mk_Net (ct_Net) (ok_f9) rfl (hr.mono (by decide)) (takes_of rfl rfl rfl rfl) T.g_Net)))
    (s_cons (s_for (passes_of rfl) rfl (i_any (d_v 1)) (g_one 3 hN)
      (s_last (s_drop (c_meth (met_put_point_d1) (hr.mono (by decide)) (takes_of rfl rfl rfl rfl) (a_io (p_v 2)) (a_cons (a_e (d_v 3)) a_nil)))))
    (s_cons (s_for (passes_of rfl) rfl (i_any (d_sl11 (d_v 0) d_int d_int)) (g_one 4 hN)
      (s_cons (s_if (u_b (t_gt (b_len T.b_len (d_cons (d_v 1) d_nil)) d_int))
        (s_cons (s_set 5 hN (c_e (d_mod (d_call (ok_f22) rfl (hr.mono (by decide)) (takes_of rfl rfl rfl rfl) T.g_f22 (d_cons (d_v 4) (d_cons d_int d_nil))) (b_len T.b_len (d_cons (d_v 1) d_nil)))))
        (s_cons (s_set 6 hN (c_e (d_mod (d_add (d_add (d_v 5) d_int) (d_mod (d_call (ok_f22) rfl (hr.mono (by decide)) (takes_of rfl rfl rfl rfl) T.g_f22 (d_cons (d_v 4) (d_cons d_int d_nil))) (d_sub (b_len T.b_len (d_cons (d_v 1) d_nil)) d_int))) (b_len T.b_len (d_cons (d_v 1) d_nil)))))
        (s_last (s_drop (c_meth (met_put_arrow) (hr.mono (by decide)) (takes_of rfl rfl rfl rfl) (a_io (p_v 2)) (a_cons (a_e (d_frz (d_ix hr (d_v 1) (d_v 5)))) (a_cons (a_e (d_frz (d_ix hr (d_v 1) (d_v 6)))) (a_cons (a_e (d_frz (d_add d_int (d_mod (d_call (ok_f22) rfl (hr.mono (by decide)) (takes_of rfl rfl rfl rfl) T.g_f22 (d_cons (d_v 4) (d_cons d_int d_nil))) d_int)))) (a_cons (a_e (d_frz (d_add d_int (d_mod (d_v 4) (d_pow d_int d_int))))) a_nil)))))))))
        s_nil)
      (s_last (s_if (u_b (t_w (w_and (t_eq hr (d_mod (d_call (ok_f22) rfl (hr.mono (by decide)) (takes_of rfl rfl rfl rfl) T.g_f22 (d_cons (d_v 4) (d_cons d_int d_nil))) d_int) d_int) (w_and1 (t_brw 2 (t_ne hr (d_meth0 (met_arrows) (hr.mono (by decide)) (takes_of rfl rfl rfl rfl) (d_v 2)) (d_lst d_nil)))))))
        (s_last (s_drop (c_meth (met_take_arrow) (hr.mono (by decide)) (takes_of rfl rfl rfl rfl) (a_io (p_v 2)) (a_cons (a_e (d_frz (d_brw 2 (d_ix hr (d_ix hr (d_meth0 (met_arrows) (hr.mono (by decide)) (takes_of rfl rfl rfl rfl) (d_v 2)) (d_mod (d_call (ok_f22) rfl (hr.mono (by decide)) (takes_of rfl rfl rfl rfl) T.g_f22 (d_cons (d_v 4) (d_cons d_int d_nil))) (b_len T.b_len (d_cons (d_meth0 (met_arrows) (hr.mono (by decide)) (takes_of rfl rfl rfl rfl) (d_v 2)) d_nil)))) d_int)))) a_nil))))
        s_nil))))
    (s_last (s_ret (c_mv 2)))))))
theorem ok_f24 (T : Txt K mg C8 a3 a18 a4 a5 a6 a7 a8 a9 a10 a11 a12 a15 a21 a22 a23 a24 a25 a26 a27 a28) (ok_f11_d1 : CalOk Pr w K mg base (ctF C8) 2 run_f11 a11 [.int 0]) (ok_f12 : CalOk Pr w K mg base (ctF C8) 2 run_f12 a12 []) (ok_f15 : CalOk Pr w K mg base (ctF C8) 1 run_f15 a15 []) (ok_f18 : CalOk Pr w K mg base (ctF C8) 1 run_f18 a18 []) (ok_f21 : CalOk Pr w K mg base (ctF C8) 1 run_f21 a21 []) (ok_f22 : CalOk Pr w K mg base (ctF C8) 1 run_f22 a22 []) (ok_f23 : CalOk Pr w K mg base (ctF C8) 2 run_f23 a23 []) (ok_f9 : CalOk Pr w K mg base (ctF C8) 1 run_f9 a9 []) (met_arrows : MetOk Pr w K mg base (ctF C8) pg_f23 1 "arrows" []) (met_put_arrow : MetOk Pr w K mg base (ctF C8) pg_f23 2 "put_arrow" []) (met_put_point_d1 : MetOk Pr w K mg base (ctF C8) pg_f23 2 "put_point" [.int 0]) (met_take_arrow : MetOk Pr w K mg base (ctF C8) pg_f23 1 "take_arrow" []) : CalOk Pr w K mg base (ctF C8) 3 run_f24 a24 [] := by
  obtain ⟨fd, F⟩ := T.F_f24
  exact ⟨fd, _, [], der_f24 T ok_f11_d1 ok_f12 ok_f15 ok_f18 ok_f21 ok_f22 ok_f23 ok_f9 met_arrows met_put_arrow met_put_point_d1 met_take_arrow F, F.binds (ps := ["_law_script"]) fun _ _ _ _ _ _ us hl => match us, hl with | [_], _ => rfl, .nil, F.kp⟩
theorem sc_f25 : FnScope ["_law_kept", "_law_one", "_law_other", "_law_met", "_law_at", "_law_row"] ["_law_kept", "_law_one", "_law_other"] (defScope (topS 27)) := ⟨rfl, rfl, rfl, by decide +kernel, rfl, by decide +kernel, by decide +kernel⟩
theorem der_f25 (T : Txt K mg C8 a3 a18 a4 a5 a6 a7 a8 a9 a10 a11 a12 a15 a21 a22 a23 a24 a25 a26 a27 a28)  {fd : FuncData} (F : Fun K "_law_leads" "_law_leads" (topS 27) a25 fd) : FnOk Pr w K mg base (L2.CX Pr w) 1 a25 fd ["_law_kept", "_law_one", "_law_other"] (spR K (ctF C8) run_f25) := by
  refine fn_ok T.cf (fun z => fit T z pg_f24 rfl rfl rfl rfl) F sc_f25 (by decide) rfl rfl (fun cdv A outer s H E hr => ?_)
  have hN := sc_f25.nd
  exact (s_cons (s_set 3 hN (c_e (d_lst (d_cons (d_v 1) d_nil))))
    (s_cons (s_set 4 hN (c_e d_int))
    (s_cons (s_whl (passes_of rfl) (u_b (t_brw 3 (t_lt (d_v 4) (b_len T.b_len (d_cons (d_v 3) d_nil)))))
      (s_cons (s_for (passes_of rfl) rfl (i_any (d_v 0)) (g_one 5 hN)
        (s_last (s_if (u_b (t_w (w_and (t_brw 3 (t_eq hr (d_ix hr (d_v 5) d_int) (d_ix hr (d_v 3) (d_v 4)))) (w_and1 (t_brw 3 (t_notin hr (d_ix hr (d_v 5) d_int) (d_v 3)))))))
          (s_last (s_mut (mu_1 PySem.F.plainAttrs_list PySem.F.slot_list_append PySem.F.type_list_append mt_append (p_v 3) (a_cons (a_e (d_ix hr (d_v 5) d_int)) a_nil))))
          s_nil)))
      (s_last (s_set 4 hN (c_frz (c_e (d_add (d_v 4) d_int)))))))
    (s_frzs 3 (s_last (s_ret (c_e (d_in_ hr (d_v 2) (d_v 3)))))))))
theorem ok_f25 (T : Txt K mg C8 a3 a18 a4 a5 a6 a7 a8 a9 a10 a11 a12 a15 a21 a22 a23 a24 a25 a26 a27 a28)  : CalOk Pr w K mg base (ctF C8) 1 run_f25 a25 [] := by
  obtain ⟨fd, F⟩ := T.F_f25
  exact ⟨fd, _, [], der_f25 T  F, F.binds (ps := ["_law_kept", "_law_one", "_law_other"]) fun _ _ _ _ _ _ us hl => match us, hl with | [_, _, _], _ => rfl, .nil, F.kp⟩
theorem sc_f26 : FnScope ["_law_rows", "_law_kept", "_law_found", "_law_row"] ["_law_rows"] (defScope (topS 28)) := ⟨rfl, rfl, rfl, by decide +kernel, rfl, by decide +kernel, by decide +kernel⟩
theorem der_f26 (T : Txt K mg C8 a3 a18 a4 a5 a6 a7 a8 a9 a10 a11 a12 a15 a21 a22 a23 a24 a25 a26 a27 a28) (ok_f25 : CalOk Pr w K mg base (ctF C8) 1 run_f25 a25 []) {fd : FuncData} (F : Fun K "_law_due" "_law_due" (topS 28) a26 fd) : FnOk Pr w K mg base (L2.CX Pr w) 2 a26 fd ["_law_rows"] (spR K (ctF C8) run_f26) := by
  refine fn_ok T.cf (fun z => fit T z pg_f25 rfl rfl rfl rfl) F sc_f26 (by decide) rfl rfl (fun cdv A outer s H E hr => ?_)
  have hN := sc_f26.nd
  exact (s_cons (s_set 1 hN (c_e (d_lst d_nil)))
    (s_cons (s_set 2 hN (c_e (d_lst d_nil)))
    (s_cons (s_for (passes_of rfl) rfl (i_any (d_v 0)) (g_one 3 hN)
      (s_last (s_if (u_b (t_brw 1 (t_val (d_call (ok_f25) rfl (hr.mono (by decide)) (takes_of rfl rfl rfl rfl) T.g_f25 (d_cons (d_v 1) (d_cons (d_frz (d_ix hr (d_v 3) d_int)) (d_cons (d_frz (d_ix hr (d_v 3) d_int)) d_nil)))))))
        (s_last (s_mut (mu_1 PySem.F.plainAttrs_list PySem.F.slot_list_append PySem.F.type_list_append mt_append (p_v 2) (a_cons (a_e (d_ix hr (d_v 3) d_int)) a_nil))))
        (s_last (s_mut (mu_1 PySem.F.plainAttrs_list PySem.F.slot_list_append PySem.F.type_list_append mt_append (p_v 1) (a_cons (a_e (d_v 3)) a_nil)))))))
    (s_last (s_ret (c_mv 2))))))
theorem ok_f26 (T : Txt K mg C8 a3 a18 a4 a5 a6 a7 a8 a9 a10 a11 a12 a15 a21 a22 a23 a24 a25 a26 a27 a28) (ok_f25 : CalOk Pr w K mg base (ctF C8) 1 run_f25 a25 []) : CalOk Pr w K mg base (ctF C8) 2 run_f26 a26 [] := by
  obtain ⟨fd, F⟩ := T.F_f26
  exact ⟨fd, _, [], der_f26 T ok_f25 F, F.binds (ps := ["_law_rows"]) fun _ _ _ _ _ _ us hl => match us, hl with | [_], _ => rfl, .nil, F.kp⟩
theorem sc_f27 : FnScope ["_law_net_here", "_law_rows", "_law_due_here", "_law_found", "_law_one"] ["_law_net_here"] (defScope (topS 29)) := ⟨rfl, rfl, rfl, by decide +kernel, rfl, by decide +kernel, by decide +kernel⟩
theorem der_f27 (T : Txt K mg C8 a3 a18 a4 a5 a6 a7 a8 a9 a10 a11 a12 a15 a21 a22 a23 a24 a25 a26 a27 a28) (ok_f18 : CalOk Pr w K mg base (ctF C8) 1 run_f18 a18 []) (ok_f26 : CalOk Pr w K mg base (ctF C8) 2 run_f26 a26 []) (ok_f5 : CalOk Pr w K mg base (ctF C8) 3 run_f5 a5 []) (met_arrows : MetOk Pr w K mg base (ctF C8) pg_f26 1 "arrows" []) {fd : FuncData} (F : Fun K "_law_right" "_law_right" (topS 29) a27 fd) : FnOk Pr w K mg base (L2.CX Pr w) 4 a27 fd ["_law_net_here"] (spR K (ctF C8) run_f27) := by
  refine fn_ok T.cf (fun z => fit T z pg_f26 rfl rfl rfl rfl) F sc_f27 (by decide) rfl rfl (fun cdv A outer s H E hr => ?_)
  have hN := sc_f27.nd
  exact (s_cons (s_set 1 hN (c_frz (c_e (d_meth0 (met_arrows) (hr.mono (by decide)) (takes_of rfl rfl rfl rfl) (d_v 0)))))
    (s_cons (s_set 2 hN (c_frz (c_e (d_call (ok_f26) rfl (hr.mono (by decide)) (takes_of rfl rfl rfl rfl) T.g_f26 (d_cons (d_v 1) d_nil)))))
    (s_cons (s_set 3 hN (c_e (d_call (ok_f5) rfl (hr.mono (by decide)) (takes_of rfl rfl rfl rfl) T.g_f5 (d_cons (d_v 0) d_nil))))
    (s_cons (s_if (u_b (t_w (w_or (t_not (t_brw 3 (t_val (b_isT T.b_isinstance T.b_list (by decide +kernel) (d_v 3))))) (w_or1 (t_brw 3 (t_ne hr (d_v 3) (d_v 2)))))))
      (s_last (s_ret (c_e d_bl)))
      s_nil)
    (s_cons (s_if (u_b (t_brw 3 (t_ne hr (d_lc [("_law_one", 4)] rfl hN (i_any (d_v 3)) (blkOk_by rfl) (fun _ _ _ _ _ => (g_one 4 hN)) (fun _ _ _ _ _ => (q_one (t_val (b_isT T.b_isinstance T.b_bool (by decide +kernel) (d_v 4))))) (fun _ _ _ _ _ => (d_v 4))) (d_lst d_nil))))
      (s_last (s_ret (c_e d_bl)))
      s_nil)
    (s_cons (s_mut (mu_1 PySem.F.plainAttrs_list PySem.F.slot_list_append PySem.F.type_list_append mt_append (p_v 3) (a_cons (a_e d_int) a_nil)))
    (s_last (s_ret (c_e (d_and (d_eq hr (d_call (ok_f5) rfl (hr.mono (by decide)) (takes_of rfl rfl rfl rfl) T.g_f5 (d_cons (d_v 0) d_nil)) (d_v 2)) (d_one (d_eq hr (d_meth0 (met_arrows) (hr.mono (by decide)) (takes_of rfl rfl rfl rfl) (d_v 0)) (d_v 1)))))))))))))
theorem ok_f27 (T : Txt K mg C8 a3 a18 a4 a5 a6 a7 a8 a9 a10 a11 a12 a15 a21 a22 a23 a24 a25 a26 a27 a28) (ok_f18 : CalOk Pr w K mg base (ctF C8) 1 run_f18 a18 []) (ok_f26 : CalOk Pr w K mg base (ctF C8) 2 run_f26 a26 []) (ok_f5 : CalOk Pr w K mg base (ctF C8) 3 run_f5 a5 []) (met_arrows : MetOk Pr w K mg base (ctF C8) pg_f26 1 "arrows" []) : CalOk Pr w K mg base (ctF C8) 4 run_f27 a27 [] := by
  obtain ⟨fd, F⟩ := T.F_f27
  exact ⟨fd, _, [], der_f27 T ok_f18 ok_f26 ok_f5 met_arrows F, F.binds (ps := ["_law_net_here"]) fun _ _ _ _ _ _ us hl => match us, hl with | [_], _ => rfl, .nil, F.kp⟩
theorem sc_f28 : FnScope ["_law_script", "_law_net_here", "_law_about", "_law_kept", "_law_row"] ["_law_script"] (defScope (topS 30)) := ⟨rfl, rfl, rfl, by decide +kernel, rfl, by decide +kernel, by decide +kernel⟩
theorem der_f28 (T : Txt K mg C8 a3 a18 a4 a5 a6 a7 a8 a9 a10 a11 a12 a15 a21 a22 a23 a24 a25 a26 a27 a28) (ok_f15 : CalOk Pr w K mg base (ctF C8) 1 run_f15 a15 []) (ok_f18 : CalOk Pr w K mg base (ctF C8) 1 run_f18 a18 []) (ok_f21 : CalOk Pr w K mg base (ctF C8) 1 run_f21 a21 []) (ok_f24 : CalOk Pr w K mg base (ctF C8) 3 run_f24 a24 []) (ok_f27 : CalOk Pr w K mg base (ctF C8) 4 run_f27 a27 []) (ok_f5 : CalOk Pr w K mg base (ctF C8) 3 run_f5 a5 []) (met_arrows : MetOk Pr w K mg base (ctF C8) pg_f27 1 "arrows" []) (met_take_arrow : MetOk Pr w K mg base (ctF C8) pg_f27 1 "take_arrow" []) {fd : FuncData} (F : Fun K "law" "law" (topS 30) a28 fd) : FnOk Pr w K mg base (L2.CX Pr w) 5 a28 fd ["_law_script"] (spR K (ctF C8) run_f28) := by
  refine fn_ok T.cf (fun z => fit T z pg_f27 rfl rfl rfl rfl) F sc_f28 (by decide) rfl rfl (fun cdv A outer s H E hr => ?_)
  have hN := sc_f28.nd
  exact (s_cons (s_set 1 hN (c_e (d_call (ok_f24) rfl (hr.mono (by decide)) (takes_of rfl rfl rfl rfl) T.g_f24 (d_cons (d_v 0) d_nil))))
    (s_cons (s_if (u_b (t_not (t_brw 1 (t_val (d_call (ok_f27) rfl (hr.mono (by decide)) (takes_of rfl rfl rfl rfl) T.g_f27 (d_cons (d_v 1) d_nil))))))
      (s_last (s_ret (c_e d_bl)))
      s_nil)
    (s_cons (s_set 2 hN (c_frz (c_e (d_brw 1 (d_call (ok_f5) rfl (hr.mono (by decide)) (takes_of rfl rfl rfl rfl) T.g_f5 (d_cons (d_v 1) d_nil))))))
    (s_cons (s_setLc 3 [("_law_row", 4)] rfl rfl hN (i_any (d_meth0 (met_arrows) (hr.mono (by decide)) (takes_of rfl rfl rfl rfl) (d_v 1))) (blkOk_by rfl) (fun _ _ _ _ _ => (g_one 4 hN)) (fun _ _ _ _ _ => (q_one (t_notin hr (d_ix hr (d_v 4) d_int) (d_v 2)))) (fun _ _ _ _ _ => (d_ix hr (d_v 4) d_int)))
    (s_cons (s_if (u_b (t_ne hr (d_v 3) (d_lst d_nil)))
      (s_last (s_drop (c_meth (met_take_arrow) (hr.mono (by decide)) (takes_of rfl rfl rfl rfl) (a_io (p_v 1)) (a_cons (a_e (d_frz (d_ix hr (d_v 3) (d_mod (d_call (ok_f21) rfl (hr.mono (by decide)) (takes_of rfl rfl rfl rfl) T.g_f21 (d_cons (d_v 0) (d_cons d_int d_nil))) (b_len T.b_len (d_cons (d_v 3) d_nil)))))) a_nil))))
      s_nil)
    (s_cons (s_if (u_b (t_not (t_brw 1 (t_val (d_call (ok_f27) rfl (hr.mono (by decide)) (takes_of rfl rfl rfl rfl) T.g_f27 (d_cons (d_v 1) d_nil))))))
      (s_last (s_ret (c_e d_bl)))
      s_nil)
    (s_cons (s_set 2 hN (c_frz (c_e (d_brw 1 (d_call (ok_f5) rfl (hr.mono (by decide)) (takes_of rfl rfl rfl rfl) T.g_f5 (d_cons (d_v 1) d_nil))))))
    (s_cons (s_if (u_b (t_ne hr (d_v 2) (d_lst d_nil)))
      (s_last (s_drop (c_meth (met_take_arrow) (hr.mono (by decide)) (takes_of rfl rfl rfl rfl) (a_io (p_v 1)) (a_cons (a_e (d_frz (d_ix hr (d_v 2) d_int))) a_nil))))
      s_nil)
    (s_frzs 1 (s_last (s_ret (c_e (d_call (ok_f27) rfl (hr.mono (by decide)) (takes_of rfl rfl rfl rfl) T.g_f27 (d_cons (d_v 1) d_nil))))))))))))))
theorem ok_f28 (T : Txt K mg C8 a3 a18 a4 a5 a6 a7 a8 a9 a10 a11 a12 a15 a21 a22 a23 a24 a25 a26 a27 a28) (ok_f15 : CalOk Pr w K mg base (ctF C8) 1 run_f15 a15 []) (ok_f18 : CalOk Pr w K mg base (ctF C8) 1 run_f18 a18 []) (ok_f21 : CalOk Pr w K mg base (ctF C8) 1 run_f21 a21 []) (ok_f24 : CalOk Pr w K mg base (ctF C8) 3 run_f24 a24 []) (ok_f27 : CalOk Pr w K mg base (ctF C8) 4 run_f27 a27 []) (ok_f5 : CalOk Pr w K mg base (ctF C8) 3 run_f5 a5 []) (met_arrows : MetOk Pr w K mg base (ctF C8) pg_f27 1 "arrows" []) (met_take_arrow : MetOk Pr w K mg base (ctF C8) pg_f27 1 "take_arrow" []) : CalOk Pr w K mg base (ctF C8) 5 run_f28 a28 [] := by
  obtain ⟨fd, F⟩ := T.F_f28
  exact ⟨fd, _, [], der_f28 T ok_f15 ok_f18 ok_f21 ok_f24 ok_f27 ok_f5 met_arrows met_take_arrow F, F.binds (ps := ["_law_script"]) fun _ _ _ _ _ _ us hl => match us, hl with | [_], _ => rfl, .nil, F.kp⟩
theorem met_arrows_f4 (T : Txt K mg C8 a3 a18 a4 a5 a6 a7 a8 a9 a10 a11 a12 a15 a21 a22 a23 a24 a25 a26 a27 a28) (ok_f18 : CalOk Pr w K mg base (ctF C8) 1 run_f18 a18 []) : MetOk Pr w K mg base (ctF C8) pg_f18 1 "arrows" [] := by
  intro c C f hc hm
  revert hm
  refine ctAll (P := fun c C => pg_f18.mt c "arrows" = some f → ∃ fa, Cls K C ∧ Meth K C "arrows" fa ∧ CalOk Pr w K mg base (ctF C8) 1 (pg_f18.cal f) fa []) ?_ c C hc
  · intro hm
    have e : pg_f18.mt (cid 8) "arrows" = some (fid 18) := by decide +kernel
    rw [e] at hm
    cases hm
    exact ⟨a18, T.cf.cl _ _ ct_Net rfl, T.m_Net_arrows, by
      obtain ⟨fd, ps, ds, F, r⟩ := ok_f18
      exact ⟨fd, ps, ds, F.mono (by decide), r⟩⟩
theorem met_arrows_f24 (T : Txt K mg C8 a3 a18 a4 a5 a6 a7 a8 a9 a10 a11 a12 a15 a21 a22 a23 a24 a25 a26 a27 a28) (ok_f18 : CalOk Pr w K mg base (ctF C8) 1 run_f18 a18 []) : MetOk Pr w K mg base (ctF C8) pg_f23 1 "arrows" [] := by
  intro c C f hc hm
  revert hm
  refine ctAll (P := fun c C => pg_f23.mt c "arrows" = some f → ∃ fa, Cls K C ∧ Meth K C "arrows" fa ∧ CalOk Pr w K mg base (ctF C8) 1 (pg_f23.cal f) fa []) ?_ c C hc
  · intro hm
    have e : pg_f23.mt (cid 8) "arrows" = some (fid 18) := by decide +kernel
    rw [e] at hm
    cases hm
    exact ⟨a18, T.cf.cl _ _ ct_Net rfl, T.m_Net_arrows, by
      obtain ⟨fd, ps, ds, F, r⟩ := ok_f18
      exact ⟨fd, ps, ds, F.mono (by decide), r⟩⟩
theorem met_arrows_f27 (T : Txt K mg C8 a3 a18 a4 a5 a6 a7 a8 a9 a10 a11 a12 a15 a21 a22 a23 a24 a25 a26 a27 a28) (ok_f18 : CalOk Pr w K mg base (ctF C8) 1 run_f18 a18 []) : MetOk Pr w K mg base (ctF C8) pg_f26 1 "arrows" [] := by
  intro c C f hc hm
  revert hm
  refine ctAll (P := fun c C => pg_f26.mt c "arrows" = some f → ∃ fa, Cls K C ∧ Meth K C "arrows" fa ∧ CalOk Pr w K mg base (ctF C8) 1 (pg_f26.cal f) fa []) ?_ c C hc
  · intro hm
    have e : pg_f26.mt (cid 8) "arrows" = some (fid 18) := by decide +kernel
    rw [e] at hm
    cases hm
    exact ⟨a18, T.cf.cl _ _ ct_Net rfl, T.m_Net_arrows, by
      obtain ⟨fd, ps, ds, F, r⟩ := ok_f18
      exact ⟨fd, ps, ds, F.mono (by decide), r⟩⟩
theorem met_arrows_f28 (T : Txt K mg C8 a3 a18 a4 a5 a6 a7 a8 a9 a10 a11 a12 a15 a21 a22 a23 a24 a25 a26 a27 a28) (ok_f18 : CalOk Pr w K mg base (ctF C8) 1 run_f18 a18 []) : MetOk Pr w K mg base (ctF C8) pg_f27 1 "arrows" [] := by
  intro c C f hc hm
  revert hm
  refine ctAll (P := fun c C => pg_f27.mt c "arrows" = some f → ∃ fa, Cls K C ∧ Meth K C "arrows" fa ∧ CalOk Pr w K mg base (ctF C8) 1 (pg_f27.cal f) fa []) ?_ c C hc
  · intro hm
    have e : pg_f27.mt (cid 8) "arrows" = some (fid 18) := by decide +kernel
    rw [e] at hm
    cases hm
    exact ⟨a18, T.cf.cl _ _ ct_Net rfl, T.m_Net_arrows, by
      obtain ⟨fd, ps, ds, F, r⟩ := ok_f18
      exact ⟨fd, ps, ds, F.mono (by decide), r⟩⟩
theorem met_both_there_f12 (T : Txt K mg C8 a3 a18 a4 a5 a6 a7 a8 a9 a10 a11 a12 a15 a21 a22 a23 a24 a25 a26 a27 a28) (ok_f10 : CalOk Pr w K mg base (ctF C8) 1 run_f10 a10 []) : MetOk Pr w K mg base (ctF C8) pg_f11 1 "both_there" [] := by
  intro c C f hc hm
  revert hm
  refine ctAll (P := fun c C => pg_f11.mt c "both_there" = some f → ∃ fa, Cls K C ∧ Meth K C "both_there" fa ∧ CalOk Pr w K mg base (ctF C8) 1 (pg_f11.cal f) fa []) ?_ c C hc
  · intro hm
    have e : pg_f11.mt (cid 8) "both_there" = some (fid 10) := by decide +kernel
    rw [e] at hm
    cases hm
    exact ⟨a10, T.cf.cl _ _ ct_Net rfl, T.m_Net_both_there, by
      obtain ⟨fd, ps, ds, F, r⟩ := ok_f10
      exact ⟨fd, ps, ds, F.mono (by decide), r⟩⟩
theorem met_put_arrow_f24 (T : Txt K mg C8 a3 a18 a4 a5 a6 a7 a8 a9 a10 a11 a12 a15 a21 a22 a23 a24 a25 a26 a27 a28) (ok_f12 : CalOk Pr w K mg base (ctF C8) 2 run_f12 a12 []) : MetOk Pr w K mg base (ctF C8) pg_f23 2 "put_arrow" [] := by
  intro c C f hc hm
  revert hm
  refine ctAll (P := fun c C => pg_f23.mt c "put_arrow" = some f → ∃ fa, Cls K C ∧ Meth K C "put_arrow" fa ∧ CalOk Pr w K mg base (ctF C8) 2 (pg_f23.cal f) fa []) ?_ c C hc
  · intro hm
    have e : pg_f23.mt (cid 8) "put_arrow" = some (fid 12) := by decide +kernel
    rw [e] at hm
    cases hm
    exact ⟨a12, T.cf.cl _ _ ct_Net rfl, T.m_Net_put_arrow, by
      obtain ⟨fd, ps, ds, F, r⟩ := ok_f12
      exact ⟨fd, ps, ds, F.mono (by decide), r⟩⟩
theorem met_put_point_d1_f24 (T : Txt K mg C8 a3 a18 a4 a5 a6 a7 a8 a9 a10 a11 a12 a15 a21 a22 a23 a24 a25 a26 a27 a28) (ok_f11 : CalOk Pr w K mg base (ctF C8) 2 run_f11 a11 [.int 0]) : MetOk Pr w K mg base (ctF C8) pg_f23 2 "put_point" [.int 0] := by
  intro c C f hc hm
  revert hm
  refine ctAll (P := fun c C => pg_f23.mt c "put_point" = some f → ∃ fa, Cls K C ∧ Meth K C "put_point" fa ∧ CalOk Pr w K mg base (ctF C8) 2 (pg_f23.cal f) fa [.int 0]) ?_ c C hc
  · intro hm
    have e : pg_f23.mt (cid 8) "put_point" = some (fid 11) := by decide +kernel
    rw [e] at hm
    cases hm
    exact ⟨a11, T.cf.cl _ _ ct_Net rfl, T.m_Net_put_point, by
      obtain ⟨fd, ps, ds, F, r⟩ := ok_f11
      exact ⟨fd, ps, ds, F.mono (by decide), r⟩⟩
theorem met_take_arrow_f24 (T : Txt K mg C8 a3 a18 a4 a5 a6 a7 a8 a9 a10 a11 a12 a15 a21 a22 a23 a24 a25 a26 a27 a28) (ok_f15 : CalOk Pr w K mg base (ctF C8) 1 run_f15 a15 []) : MetOk Pr w K mg base (ctF C8) pg_f23 1 "take_arrow" [] := by
  intro c C f hc hm
  revert hm
  refine ctAll (P := fun c C => pg_f23.mt c "take_arrow" = some f → ∃ fa, Cls K C ∧ Meth K C "take_arrow" fa ∧ CalOk Pr w K mg base (ctF C8) 1 (pg_f23.cal f) fa []) ?_ c C hc
  · intro hm
    have e : pg_f23.mt (cid 8) "take_arrow" = some (fid 15) := by decide +kernel
    rw [e] at hm
    cases hm
    exact ⟨a15, T.cf.cl _ _ ct_Net rfl, T.m_Net_take_arrow, by
      obtain ⟨fd, ps, ds, F, r⟩ := ok_f15
      exact ⟨fd, ps, ds, F.mono (by decide), r⟩⟩
theorem met_take_arrow_f28 (T : Txt K mg C8 a3 a18 a4 a5 a6 a7 a8 a9 a10 a11 a12 a15 a21 a22 a23 a24 a25 a26 a27 a28) (ok_f15 : CalOk Pr w K mg base (ctF C8) 1 run_f15 a15 []) : MetOk Pr w K mg base (ctF C8) pg_f27 1 "take_arrow" [] := by
  intro c C f hc hm
  revert hm
  refine ctAll (P := fun c C => pg_f27.mt c "take_arrow" = some f → ∃ fa, Cls K C ∧ Meth K C "take_arrow" fa ∧ CalOk Pr w K mg base (ctF C8) 1 (pg_f27.cal f) fa []) ?_ c C hc
  · intro hm
    have e : pg_f27.mt (cid 8) "take_arrow" = some (fid 15) := by decide +kernel
    rw [e] at hm
    cases hm
    exact ⟨a15, T.cf.cl _ _ ct_Net rfl, T.m_Net_take_arrow, by
      obtain ⟨fd, ps, ds, F, r⟩ := ok_f15
      exact ⟨fd, ps, ds, F.mono (by decide), r⟩⟩
theorem law_ok (T : Txt K mg C8 a3 a18 a4 a5 a6 a7 a8 a9 a10 a11 a12 a15 a21 a22 a23 a24 a25 a26 a27 a28) {fd : FuncData} (F : Fun K "law" "law" (topS 30) a28 fd) : FnOk Pr w K mg base (L2.CX Pr w) 5 a28 fd ["_law_script"] (spR K (ctF C8) run_f28) := by
  have o_f3 := ok_f3 (Pr := Pr) (w := w) (base := base) T 
  have o_f18 := ok_f18 (Pr := Pr) (w := w) (base := base) T 
  have o_f4 := ok_f4 (Pr := Pr) (w := w) (base := base) T o_f18 o_f3 (met_arrows_f4 T o_f18)
  have o_f5 := ok_f5 (Pr := Pr) (w := w) (base := base) T o_f4
  have o_f6 := ok_f6 (Pr := Pr) (w := w) (base := base) T 
  have o_f7 := ok_f7 (Pr := Pr) (w := w) (base := base) T 
  have o_f8 := ok_f8 (Pr := Pr) (w := w) (base := base) T 
  have o_f9 := ok_f9 (Pr := Pr) (w := w) (base := base) T 
  have o_f10 := ok_f10 (Pr := Pr) (w := w) (base := base) T 
  have o_f11 := ok_f11 (Pr := Pr) (w := w) (base := base) T o_f6 o_f7 o_f8
  have o_f11_d1 := ok_f11_d1 (Pr := Pr) (w := w) (base := base) T o_f6 o_f7 o_f8
  have o_f12 := ok_f12 (Pr := Pr) (w := w) (base := base) T o_f10 o_f7 o_f8 (met_both_there_f12 T o_f10)
  have o_f15 := ok_f15 (Pr := Pr) (w := w) (base := base) T 
  have o_f21 := ok_f21 (Pr := Pr) (w := w) (base := base) T 
  have o_f22 := ok_f22 (Pr := Pr) (w := w) (base := base) T 
  have o_f23 := ok_f23 (Pr := Pr) (w := w) (base := base) T o_f22
  have o_f24 := ok_f24 (Pr := Pr) (w := w) (base := base) T o_f11_d1 o_f12 o_f15 o_f18 o_f21 o_f22 o_f23 o_f9 (met_arrows_f24 T o_f18) (met_put_arrow_f24 T o_f12) (met_put_point_d1_f24 T o_f11_d1) (met_take_arrow_f24 T o_f15)
  have o_f25 := ok_f25 (Pr := Pr) (w := w) (base := base) T 
  have o_f26 := ok_f26 (Pr := Pr) (w := w) (base := base) T o_f25
  have o_f27 := ok_f27 (Pr := Pr) (w := w) (base := base) T o_f18 o_f26 o_f5 (met_arrows_f27 T o_f18)
  exact der_f28 T o_f15 o_f18 o_f21 o_f24 o_f27 o_f5 (met_arrows_f28 T o_f18) (met_take_arrow_f28 T o_f15) F
end
theorem all_mk {K : PySem.W.Frag} {h : Heap} {mg : Str → Option Value} {C8 : Addr} {a3 a18 a4 a5 a6 a7 a8 a9 a10 a11 a12 a15 a21 a22 a23 a24 a25 a26 a27 a28 : Addr} {tk_LETTERS : Tok} {tk_MOST_ARROWS : Tok} {tk_MOST_POINTS : Tok} (X : K.In h) (G : h.Ns mainGlobals mg)
    {od_f3 an_f3 : Option Addr} {sl_f3 : Array (Option Value)} {oc_f3 kV_f3 dc_f3 pm_f3 cd_f3 ct_f3 : Value}
    {od_f18 an_f18 : Option Addr} {sl_f18 : Array (Option Value)} {oc_f18 kV_f18 dc_f18 pm_f18 cd_f18 ct_f18 : Value}
    {od_f4 an_f4 : Option Addr} {sl_f4 : Array (Option Value)} {oc_f4 kV_f4 dc_f4 pm_f4 cd_f4 ct_f4 : Value}
    {od_f5 an_f5 : Option Addr} {sl_f5 : Array (Option Value)} {oc_f5 kV_f5 dc_f5 pm_f5 cd_f5 ct_f5 : Value}
    {od_f6 an_f6 : Option Addr} {sl_f6 : Array (Option Value)} {oc_f6 kV_f6 dc_f6 pm_f6 cd_f6 ct_f6 : Value}
    {od_f7 an_f7 : Option Addr} {sl_f7 : Array (Option Value)} {oc_f7 kV_f7 dc_f7 pm_f7 cd_f7 ct_f7 : Value}
    {od_f8 an_f8 : Option Addr} {sl_f8 : Array (Option Value)} {oc_f8 kV_f8 dc_f8 pm_f8 cd_f8 ct_f8 : Value}
    {od_f9 an_f9 : Option Addr} {sl_f9 : Array (Option Value)} {oc_f9 kV_f9 dc_f9 pm_f9 cd_f9 ct_f9 : Value}
    {od_f10 an_f10 : Option Addr} {sl_f10 : Array (Option Value)} {oc_f10 kV_f10 dc_f10 pm_f10 cd_f10 ct_f10 : Value}
    {od_f11 an_f11 : Option Addr} {sl_f11 : Array (Option Value)} {oc_f11 kV_f11 dc_f11 pm_f11 cd_f11 ct_f11 : Value}
    {tq_f11_0 : Tok}
    {T_f11 : Addr} {oc2_f11 : Value} {od2_f11 : Option Addr} {n2_f11 : Nat} {sl2_f11 : Array (Option Value)}
    {od_f12 an_f12 : Option Addr} {sl_f12 : Array (Option Value)} {oc_f12 kV_f12 dc_f12 pm_f12 cd_f12 ct_f12 : Value}
    {tq_f12_0 : Tok}
    {tq_f12_1 : Tok}
    {T_f12 : Addr} {oc2_f12 : Value} {od2_f12 : Option Addr} {n2_f12 : Nat} {sl2_f12 : Array (Option Value)}
    {od_f15 an_f15 : Option Addr} {sl_f15 : Array (Option Value)} {oc_f15 kV_f15 dc_f15 pm_f15 cd_f15 ct_f15 : Value}
    {od_f21 an_f21 : Option Addr} {sl_f21 : Array (Option Value)} {oc_f21 kV_f21 dc_f21 pm_f21 cd_f21 ct_f21 : Value}
    {od_f22 an_f22 : Option Addr} {sl_f22 : Array (Option Value)} {oc_f22 kV_f22 dc_f22 pm_f22 cd_f22 ct_f22 : Value}
    {od_f23 an_f23 : Option Addr} {sl_f23 : Array (Option Value)} {oc_f23 kV_f23 dc_f23 pm_f23 cd_f23 ct_f23 : Value}
    {od_f24 an_f24 : Option Addr} {sl_f24 : Array (Option Value)} {oc_f24 kV_f24 dc_f24 pm_f24 cd_f24 ct_f24 : Value}
    {od_f25 an_f25 : Option Addr} {sl_f25 : Array (Option Value)} {oc_f25 kV_f25 dc_f25 pm_f25 cd_f25 ct_f25 : Value}
    {od_f26 an_f26 : Option Addr} {sl_f26 : Array (Option Value)} {oc_f26 kV_f26 dc_f26 pm_f26 cd_f26 ct_f26 : Value}
    {od_f27 an_f27 : Option Addr} {sl_f27 : Array (Option Value)} {oc_f27 kV_f27 dc_f27 pm_f27 cd_f27 ct_f27 : Value}
    {od_f28 an_f28 : Option Addr} {sl_f28 : Array (Option Value)} {oc_f28 kV_f28 dc_f28 pm_f28 cd_f28 ct_f28 : Value}
    (b_all : PySem.W.nsIn K mainGlobals "all" = some none)
    (b_bool : PySem.W.nsIn K mainGlobals "bool" = some none)
    (b_isinstance : PySem.W.nsIn K mainGlobals "isinstance" = some none)
    (b_len : PySem.W.nsIn K mainGlobals "len" = some none)
    (b_list : PySem.W.nsIn K mainGlobals "list" = some none)
    (b_range : PySem.W.nsIn K mainGlobals "range" = some none)
    (b_sorted : PySem.W.nsIn K mainGlobals "sorted" = some none)
    (c_LETTERS : PySem.W.nsIn K mainGlobals "LETTERS" = some (some (.str "abcdefghijklmnopqrstuvwxyz" tk_LETTERS)))
    (c_MOST_ARROWS : PySem.W.nsIn K mainGlobals "MOST_ARROWS" = some (some (.int 40 tk_MOST_ARROWS)))
    (c_MOST_POINTS : PySem.W.nsIn K mainGlobals "MOST_POINTS" = some (some (.int 20 tk_MOST_POINTS)))
    (g_Net : PySem.W.nsIn K mainGlobals "Net" = some (some (.ref C8)))
    (pg_Net : PySem.W.plainGet K C8 Str.empty = true)
    (hd_Net : PySem.W.hasDictIn K C8 = true)
    (po_Net : PySem.W.plainOver K C8 = true)
    (sa_Net : PySem.W.findIn K (.ref C8) "__setattr__" = some (some (.builtin "object.__setattr__")))
    (ca_Net : PySem.W.findIn K (.ref C8) "__class__" = some (some (.builtin "object.__class__")))
    (mr_Net : PySem.W.mroIn K C8 (.type "object") = some true)
    (na_Net_drawn_arrows : PySem.W.findIn K (.ref C8) "drawn_arrows" = some none)
    (na_Net_given : PySem.W.findIn K (.ref C8) "given" = some none)
    (na_Net_halves : PySem.W.findIn K (.ref C8) "halves" = some none)
    (na_Net_level_pairs : PySem.W.findIn K (.ref C8) "level_pairs" = some none)
    (na_Net_near_pairs : PySem.W.findIn K (.ref C8) "near_pairs" = some none)
    (me_Net_arrows : PySem.W.findIn K (.ref C8) "arrows" = some (some (.ref a18)))
    (me_Net_both_there : PySem.W.findIn K (.ref C8) "both_there" = some (some (.ref a10)))
    (me_Net_put_arrow : PySem.W.findIn K (.ref C8) "put_arrow" = some (some (.ref a12)))
    (me_Net_put_point : PySem.W.findIn K (.ref C8) "put_point" = some (some (.ref a11)))
    (me_Net_take_arrow : PySem.W.findIn K (.ref C8) "take_arrow" = some (some (.ref a15)))
    (ms_Net : PySem.W.makesIn K C8 = true)
    (in_Net : PySem.W.findIn K (.ref C8) "__init__" = some (some (.ref a9)))
    (kc_Net : PySem.W.keepIn K (.ref C8) = true)
    (sp : PySem.W.specialIn K (.builtin "object.__class__") "__get__" = some (some (.builtin "getset_descriptor.__get__")))
    (tk : PySem.W.takesIn K (.builtin "object.__class__") = some true)
    (n_f3 : PySem.W.nsIn K mainGlobals "road" = some (some (.ref a3)))
    (l_f3 : K.lookup a3 = some ⟨oc_f3, od_f3, .func (PySem.W.fnOf "road" "road" (defArgs (topS 11)) (defBody (topS 11)) (defScope (topS 11)) .none kV_f3 dc_f3 pm_f3 an_f3 cd_f3 ct_f3), sl_f3⟩)
    (c_f3 : PySem.W.codeIn K cd_f3 "road" = true)
    (k_f3 : PySem.W.keepIn K (.ref a3) = true)
    (i_f18 : PySem.W.isFn K (.ref a18) = true)
    (l_f18 : K.lookup a18 = some ⟨oc_f18, od_f18, .func (PySem.W.fnOf "arrows" "Net.arrows" (defArgs (inClass (topS 21) 9)) (defBody (inClass (topS 21) 9)) (defScope (inClass (topS 21) 9)) .none kV_f18 dc_f18 pm_f18 an_f18 cd_f18 ct_f18), sl_f18⟩)
    (c_f18 : PySem.W.codeIn K cd_f18 "Net.arrows" = true)
    (k_f18 : PySem.W.keepIn K (.ref a18) = true)
    (n_f4 : PySem.W.nsIn K mainGlobals "split_arrows" = some (some (.ref a4)))
    (l_f4 : K.lookup a4 = some ⟨oc_f4, od_f4, .func (PySem.W.fnOf "split_arrows" "split_arrows" (defArgs (topS 12)) (defBody (topS 12)) (defScope (topS 12)) .none kV_f4 dc_f4 pm_f4 an_f4 cd_f4 ct_f4), sl_f4⟩)
    (c_f4 : PySem.W.codeIn K cd_f4 "split_arrows" = true)
    (k_f4 : PySem.W.keepIn K (.ref a4) = true)
    (n_f5 : PySem.W.nsIn K mainGlobals "turned" = some (some (.ref a5)))
    (l_f5 : K.lookup a5 = some ⟨oc_f5, od_f5, .func (PySem.W.fnOf "turned" "turned" (defArgs (topS 13)) (defBody (topS 13)) (defScope (topS 13)) .none kV_f5 dc_f5 pm_f5 an_f5 cd_f5 ct_f5), sl_f5⟩)
    (c_f5 : PySem.W.codeIn K cd_f5 "turned" = true)
    (k_f5 : PySem.W.keepIn K (.ref a5) = true)
    (n_f6 : PySem.W.nsIn K mainGlobals "is_name" = some (some (.ref a6)))
    (l_f6 : K.lookup a6 = some ⟨oc_f6, od_f6, .func (PySem.W.fnOf "is_name" "is_name" (defArgs (topS 18)) (defBody (topS 18)) (defScope (topS 18)) .none kV_f6 dc_f6 pm_f6 an_f6 cd_f6 ct_f6), sl_f6⟩)
    (c_f6 : PySem.W.codeIn K cd_f6 "is_name" = true)
    (k_f6 : PySem.W.keepIn K (.ref a6) = true)
    (n_f7 : PySem.W.nsIn K mainGlobals "in_range" = some (some (.ref a7)))
    (l_f7 : K.lookup a7 = some ⟨oc_f7, od_f7, .func (PySem.W.fnOf "in_range" "in_range" (defArgs (topS 19)) (defBody (topS 19)) (defScope (topS 19)) .none kV_f7 dc_f7 pm_f7 an_f7 cd_f7 ct_f7), sl_f7⟩)
    (c_f7 : PySem.W.codeIn K cd_f7 "in_range" = true)
    (k_f7 : PySem.W.keepIn K (.ref a7) = true)
    (n_f8 : PySem.W.nsIn K mainGlobals "room_for_one" = some (some (.ref a8)))
    (l_f8 : K.lookup a8 = some ⟨oc_f8, od_f8, .func (PySem.W.fnOf "room_for_one" "room_for_one" (defArgs (topS 20)) (defBody (topS 20)) (defScope (topS 20)) .none kV_f8 dc_f8 pm_f8 an_f8 cd_f8 ct_f8), sl_f8⟩)
    (c_f8 : PySem.W.codeIn K cd_f8 "room_for_one" = true)
    (k_f8 : PySem.W.keepIn K (.ref a8) = true)
    (i_f9 : PySem.W.isFn K (.ref a9) = true)
    (l_f9 : K.lookup a9 = some ⟨oc_f9, od_f9, .func (PySem.W.fnOf "__init__" "Net.__init__" (defArgs (inClass (topS 21) 0)) (defBody (inClass (topS 21) 0)) (defScope (inClass (topS 21) 0)) .none kV_f9 dc_f9 pm_f9 an_f9 cd_f9 ct_f9), sl_f9⟩)
    (c_f9 : PySem.W.codeIn K cd_f9 "Net.__init__" = true)
    (k_f9 : PySem.W.keepIn K (.ref a9) = true)
    (i_f10 : PySem.W.isFn K (.ref a10) = true)
    (l_f10 : K.lookup a10 = some ⟨oc_f10, od_f10, .func (PySem.W.fnOf "both_there" "Net.both_there" (defArgs (inClass (topS 21) 1)) (defBody (inClass (topS 21) 1)) (defScope (inClass (topS 21) 1)) .none kV_f10 dc_f10 pm_f10 an_f10 cd_f10 ct_f10), sl_f10⟩)
    (c_f10 : PySem.W.codeIn K cd_f10 "Net.both_there" = true)
    (k_f10 : PySem.W.keepIn K (.ref a10) = true)
    (i_f11 : PySem.W.isFn K (.ref a11) = true)
    (z_f11 : K.lookup T_f11 = some ⟨oc2_f11, od2_f11, .seq (List.toArray [.int 0 tq_f11_0]) n2_f11, sl2_f11⟩)
    (l_f11 : K.lookup a11 = some ⟨oc_f11, od_f11, .func (PySem.W.fnOf "put_point" "Net.put_point" (defArgs (inClass (topS 21) 2)) (defBody (inClass (topS 21) 2)) (defScope (inClass (topS 21) 2)) (.ref T_f11) kV_f11 dc_f11 pm_f11 an_f11 cd_f11 ct_f11), sl_f11⟩)
    (c_f11 : PySem.W.codeIn K cd_f11 "Net.put_point" = true)
    (k_f11 : PySem.W.keepIn K (.ref a11) = true)
    (i_f12 : PySem.W.isFn K (.ref a12) = true)
    (z_f12 : K.lookup T_f12 = some ⟨oc2_f12, od2_f12, .seq (List.toArray [.int 1 tq_f12_0, .int 1 tq_f12_1]) n2_f12, sl2_f12⟩)
    (l_f12 : K.lookup a12 = some ⟨oc_f12, od_f12, .func (PySem.W.fnOf "put_arrow" "Net.put_arrow" (defArgs (inClass (topS 21) 3)) (defBody (inClass (topS 21) 3)) (defScope (inClass (topS 21) 3)) (.ref T_f12) kV_f12 dc_f12 pm_f12 an_f12 cd_f12 ct_f12), sl_f12⟩)
    (c_f12 : PySem.W.codeIn K cd_f12 "Net.put_arrow" = true)
    (k_f12 : PySem.W.keepIn K (.ref a12) = true)
    (i_f15 : PySem.W.isFn K (.ref a15) = true)
    (l_f15 : K.lookup a15 = some ⟨oc_f15, od_f15, .func (PySem.W.fnOf "take_arrow" "Net.take_arrow" (defArgs (inClass (topS 21) 6)) (defBody (inClass (topS 21) 6)) (defScope (inClass (topS 21) 6)) .none kV_f15 dc_f15 pm_f15 an_f15 cd_f15 ct_f15), sl_f15⟩)
    (c_f15 : PySem.W.codeIn K cd_f15 "Net.take_arrow" = true)
    (k_f15 : PySem.W.keepIn K (.ref a15) = true)
    (n_f21 : PySem.W.nsIn K mainGlobals "_law_cell_at" = some (some (.ref a21)))
    (l_f21 : K.lookup a21 = some ⟨oc_f21, od_f21, .func (PySem.W.fnOf "_law_cell_at" "_law_cell_at" (defArgs (topS 23)) (defBody (topS 23)) (defScope (topS 23)) .none kV_f21 dc_f21 pm_f21 an_f21 cd_f21 ct_f21), sl_f21⟩)
    (c_f21 : PySem.W.codeIn K cd_f21 "_law_cell_at" = true)
    (k_f21 : PySem.W.keepIn K (.ref a21) = true)
    (n_f22 : PySem.W.nsIn K mainGlobals "_law_mixed" = some (some (.ref a22)))
    (l_f22 : K.lookup a22 = some ⟨oc_f22, od_f22, .func (PySem.W.fnOf "_law_mixed" "_law_mixed" (defArgs (topS 24)) (defBody (topS 24)) (defScope (topS 24)) .none kV_f22 dc_f22 pm_f22 an_f22 cd_f22 ct_f22), sl_f22⟩)
    (c_f22 : PySem.W.codeIn K cd_f22 "_law_mixed" = true)
    (k_f22 : PySem.W.keepIn K (.ref a22) = true)
    (n_f23 : PySem.W.nsIn K mainGlobals "_law_names" = some (some (.ref a23)))
    (l_f23 : K.lookup a23 = some ⟨oc_f23, od_f23, .func (PySem.W.fnOf "_law_names" "_law_names" (defArgs (topS 25)) (defBody (topS 25)) (defScope (topS 25)) .none kV_f23 dc_f23 pm_f23 an_f23 cd_f23 ct_f23), sl_f23⟩)
    (c_f23 : PySem.W.codeIn K cd_f23 "_law_names" = true)
    (k_f23 : PySem.W.keepIn K (.ref a23) = true)
    (n_f24 : PySem.W.nsIn K mainGlobals "_law_net" = some (some (.ref a24)))
    (l_f24 : K.lookup a24 = some ⟨oc_f24, od_f24, .func (PySem.W.fnOf "_law_net" "_law_net" (defArgs (topS 26)) (defBody (topS 26)) (defScope (topS 26)) .none kV_f24 dc_f24 pm_f24 an_f24 cd_f24 ct_f24), sl_f24⟩)
    (c_f24 : PySem.W.codeIn K cd_f24 "_law_net" = true)
    (k_f24 : PySem.W.keepIn K (.ref a24) = true)
    (n_f25 : PySem.W.nsIn K mainGlobals "_law_leads" = some (some (.ref a25)))
    (l_f25 : K.lookup a25 = some ⟨oc_f25, od_f25, .func (PySem.W.fnOf "_law_leads" "_law_leads" (defArgs (topS 27)) (defBody (topS 27)) (defScope (topS 27)) .none kV_f25 dc_f25 pm_f25 an_f25 cd_f25 ct_f25), sl_f25⟩)
    (c_f25 : PySem.W.codeIn K cd_f25 "_law_leads" = true)
    (k_f25 : PySem.W.keepIn K (.ref a25) = true)
    (n_f26 : PySem.W.nsIn K mainGlobals "_law_due" = some (some (.ref a26)))
    (l_f26 : K.lookup a26 = some ⟨oc_f26, od_f26, .func (PySem.W.fnOf "_law_due" "_law_due" (defArgs (topS 28)) (defBody (topS 28)) (defScope (topS 28)) .none kV_f26 dc_f26 pm_f26 an_f26 cd_f26 ct_f26), sl_f26⟩)
    (c_f26 : PySem.W.codeIn K cd_f26 "_law_due" = true)
    (k_f26 : PySem.W.keepIn K (.ref a26) = true)
    (n_f27 : PySem.W.nsIn K mainGlobals "_law_right" = some (some (.ref a27)))
    (l_f27 : K.lookup a27 = some ⟨oc_f27, od_f27, .func (PySem.W.fnOf "_law_right" "_law_right" (defArgs (topS 29)) (defBody (topS 29)) (defScope (topS 29)) .none kV_f27 dc_f27 pm_f27 an_f27 cd_f27 ct_f27), sl_f27⟩)
    (c_f27 : PySem.W.codeIn K cd_f27 "_law_right" = true)
    (k_f27 : PySem.W.keepIn K (.ref a27) = true)
    (n_f28 : PySem.W.nsIn K mainGlobals "law" = some (some (.ref a28)))
    (l_f28 : K.lookup a28 = some ⟨oc_f28, od_f28, .func (PySem.W.fnOf "law" "law" (defArgs (topS 30)) (defBody (topS 30)) (defScope (topS 30)) .none kV_f28 dc_f28 pm_f28 an_f28 cd_f28 ct_f28), sl_f28⟩)
    (c_f28 : PySem.W.codeIn K cd_f28 "law" = true)
    (k_f28 : PySem.W.keepIn K (.ref a28) = true) : Txt K mg C8 a3 a18 a4 a5 a6 a7 a8 a9 a10 a11 a12 a15 a21 a22 a23 a24 a25 a26 a27 a28 := by
  refine { b_all := PySem.W.mg_none_of X G b_all, b_bool := PySem.W.mg_none_of X G b_bool, b_isinstance := PySem.W.mg_none_of X G b_isinstance, b_len := PySem.W.mg_none_of X G b_len, b_list := PySem.W.mg_none_of X G b_list, b_range := PySem.W.mg_none_of X G b_range, b_sorted := PySem.W.mg_none_of X G b_sorted, c_LETTERS := ⟨_, PySem.W.mg_of X G c_LETTERS⟩, c_MOST_ARROWS := ⟨_, PySem.W.mg_of X G c_MOST_ARROWS⟩, c_MOST_POINTS := ⟨_, PySem.W.mg_of X G c_MOST_POINTS⟩, g_Net := PySem.W.mg_of X G g_Net, xm := ?xm, mk_Net := ⟨ms_Net, in_Net, i_f9, kc_Net⟩, g_f3 := PySem.W.mg_of X G n_f3, g_f4 := PySem.W.mg_of X G n_f4, g_f5 := PySem.W.mg_of X G n_f5, g_f6 := PySem.W.mg_of X G n_f6, g_f7 := PySem.W.mg_of X G n_f7, g_f8 := PySem.W.mg_of X G n_f8, g_f21 := PySem.W.mg_of X G n_f21, g_f22 := PySem.W.mg_of X G n_f22, g_f23 := PySem.W.mg_of X G n_f23, g_f24 := PySem.W.mg_of X G n_f24, g_f25 := PySem.W.mg_of X G n_f25, g_f26 := PySem.W.mg_of X G n_f26, g_f27 := PySem.W.mg_of X G n_f27, g_f28 := PySem.W.mg_of X G n_f28, F_f3 := ⟨_, fun_mk (st := (topS 11)) l_f3 c_f3 k_f3⟩, F_f18 := ⟨_, fun_mk (st := (inClass (topS 21) 9)) l_f18 c_f18 k_f18⟩, F_f4 := ⟨_, fun_mk (st := (topS 12)) l_f4 c_f4 k_f4⟩, F_f5 := ⟨_, fun_mk (st := (topS 13)) l_f5 c_f5 k_f5⟩, F_f6 := ⟨_, fun_mk (st := (topS 18)) l_f6 c_f6 k_f6⟩, F_f7 := ⟨_, fun_mk (st := (topS 19)) l_f7 c_f7 k_f7⟩, F_f8 := ⟨_, fun_mk (st := (topS 20)) l_f8 c_f8 k_f8⟩, F_f9 := ⟨_, fun_mk (st := (inClass (topS 21) 0)) l_f9 c_f9 k_f9⟩, F_f10 := ⟨_, fun_mk (st := (inClass (topS 21) 1)) l_f10 c_f10 k_f10⟩, F_f11 := ⟨_, funD_mk (st := (inClass (topS 21) 2)) (its := [.int 0 tq_f11_0]) l_f11 z_f11 (.cons ⟨_, rfl⟩ .nil) (by simp) c_f11 k_f11⟩, F_f12 := ⟨_, funD_mk (st := (inClass (topS 21) 3)) (its := [.int 1 tq_f12_0, .int 1 tq_f12_1]) l_f12 z_f12 (.cons ⟨_, rfl⟩ (.cons ⟨_, rfl⟩ .nil)) (by simp) c_f12 k_f12⟩, F_f15 := ⟨_, fun_mk (st := (inClass (topS 21) 6)) l_f15 c_f15 k_f15⟩, F_f21 := ⟨_, fun_mk (st := (topS 23)) l_f21 c_f21 k_f21⟩, F_f22 := ⟨_, fun_mk (st := (topS 24)) l_f22 c_f22 k_f22⟩, F_f23 := ⟨_, fun_mk (st := (topS 25)) l_f23 c_f23 k_f23⟩, F_f24 := ⟨_, fun_mk (st := (topS 26)) l_f24 c_f24 k_f24⟩, F_f25 := ⟨_, fun_mk (st := (topS 27)) l_f25 c_f25 k_f25⟩, F_f26 := ⟨_, fun_mk (st := (topS 28)) l_f26 c_f26 k_f26⟩, F_f27 := ⟨_, fun_mk (st := (topS 29)) l_f27 c_f27 k_f27⟩, F_f28 := ⟨_, fun_mk (st := (topS 30)) l_f28 c_f28 k_f28⟩, cf := ⟨ctAll (P := fun c C => isX c = false → Cls K C) (fun _ => ⟨pg_Net, hd_Net, po_Net, sa_Net⟩), ctAll (P := fun c C => isX c = false → PySem.W.findIn K (.ref C) "__class__" = some (some (.builtin "object.__class__"))) (fun _ => ca_Net), sp, tk, ctAll (P := fun c C => isX c = false → PySem.W.mroIn K C (.type "object") = some true) (fun _ => mr_Net), ?kit, ?is, ctAll (P := fun c C => isX c = true → ExcC K C) (fun h => absurd h (by decide)), ctAll (P := fun c C => isX c = true → PySem.W.kitOne K (.ref C) (.type "ValueError") = some true) (fun h => absurd h (by decide))⟩, na_drawn_arrows := ⟨ctAll (P := fun c C => isX c = false → Cls K C) (fun _ => ⟨pg_Net, hd_Net, po_Net, sa_Net⟩), ctAll (P := fun c C => isX c = false → NoAttr K C "drawn_arrows") (fun _ => na_Net_drawn_arrows), ctAll (P := fun c C => isX c = true → ExcC K C) (fun h => absurd h (by decide)), ctAll (P := fun c C => isX c = true → PySem.W.findIn K (.ref C) "drawn_arrows" = some none) (fun h => absurd h (by decide))⟩, na_given := ⟨ctAll (P := fun c C => isX c = false → Cls K C) (fun _ => ⟨pg_Net, hd_Net, po_Net, sa_Net⟩), ctAll (P := fun c C => isX c = false → NoAttr K C "given") (fun _ => na_Net_given), ctAll (P := fun c C => isX c = true → ExcC K C) (fun h => absurd h (by decide)), ctAll (P := fun c C => isX c = true → PySem.W.findIn K (.ref C) "given" = some none) (fun h => absurd h (by decide))⟩, na_halves := ⟨ctAll (P := fun c C => isX c = false → Cls K C) (fun _ => ⟨pg_Net, hd_Net, po_Net, sa_Net⟩), ctAll (P := fun c C => isX c = false → NoAttr K C "halves") (fun _ => na_Net_halves), ctAll (P := fun c C => isX c = true → ExcC K C) (fun h => absurd h (by decide)), ctAll (P := fun c C => isX c = true → PySem.W.findIn K (.ref C) "halves" = some none) (fun h => absurd h (by decide))⟩, na_level_pairs := ⟨ctAll (P := fun c C => isX c = false → Cls K C) (fun _ => ⟨pg_Net, hd_Net, po_Net, sa_Net⟩), ctAll (P := fun c C => isX c = false → NoAttr K C "level_pairs") (fun _ => na_Net_level_pairs), ctAll (P := fun c C => isX c = true → ExcC K C) (fun h => absurd h (by decide)), ctAll (P := fun c C => isX c = true → PySem.W.findIn K (.ref C) "level_pairs" = some none) (fun h => absurd h (by decide))⟩, na_near_pairs := ⟨ctAll (P := fun c C => isX c = false → Cls K C) (fun _ => ⟨pg_Net, hd_Net, po_Net, sa_Net⟩), ctAll (P := fun c C => isX c = false → NoAttr K C "near_pairs") (fun _ => na_Net_near_pairs), ctAll (P := fun c C => isX c = true → ExcC K C) (fun h => absurd h (by decide)), ctAll (P := fun c C => isX c = true → PySem.W.findIn K (.ref C) "near_pairs" = some none) (fun h => absurd h (by decide))⟩, m_Net_arrows := ⟨me_Net_arrows, i_f18, k_f18⟩, m_Net_both_there := ⟨me_Net_both_there, i_f10, k_f10⟩, m_Net_put_arrow := ⟨me_Net_put_arrow, i_f12, k_f12⟩, m_Net_put_point := ⟨me_Net_put_point, i_f11, k_f11⟩, m_Net_take_arrow := ⟨me_Net_take_arrow, i_f15, k_f15⟩ }
  case kit =>
    intro b c B C k hb hs hc
    cases hs
  case xm =>
    intro b c k hs
    unfold csx at hs
    cases hs
  case is =>
    intro b c k hs
    cases hs
theorem fin {Pr : Program} {w : World} {K : PySem.W.Frag} {mg : Str → Option Value} {C8 : Addr} {a3 a18 a4 a5 a6 a7 a8 a9 a10 a11 a12 a15 a21 a22 a23 a24 a25 a26 a27 a28 : Addr} (T : Txt K mg C8 a3 a18 a4 a5 a6 a7 a8 a9 a10 a11 a12 a15 a21 a22 a23 a24 a25 a26 a27 a28) {fa : Addr} (hmg : mg "law" = some (.ref fa)) :
    ∃ (ct : Str → Option Addr) (fd : FuncData), (∀ (s : Shared) (u : Value), BindsTo s fd ⟨[u], []⟩ [("_law_script", u)]) ∧ ∀ base : Heap, FnOk Pr w K mg base (L2.CX Pr w) 5 fa fd ["_law_script"] (spR K ct run_f28) := by
  have e := hmg.symm.trans T.g_f28
  cases e
  obtain ⟨fd, F⟩ := T.F_f28
  refine ⟨(ctF C8), fd, ?_, fun base => law_ok T F⟩
  obtain ⟨oc, od, kV, doc, pm, an, cdv, ct, osl, rfl, lk, hcd⟩ := F.ex
  exact fun s u => .of_eq rfl
end LD
namespace LD
open PySem PySem.Spec PyProof.Rows L2

@[simp] theorem limq_0 : (0 : Nat) < lim := by decide
@[simp] theorem limq_1 : (1 : Nat) < lim := by decide
@[simp] theorem limq_2 : (2 : Nat) < lim := by decide
@[simp] theorem limq_3 : (3 : Nat) < lim := by decide
@[simp] theorem limq_4 : (4 : Nat) < lim := by decide
@[simp] theorem limq_5 : (5 : Nat) < lim := by decide
@[simp] theorem limq_6 : (6 : Nat) < lim := by decide
@[simp] theorem limq_7 : (7 : Nat) < lim := by decide
theorem fnf21 (ns : List Int) (k : Nat) : run_f21 [.lst false (ns.map D.int), .int (k : Int)] = .ok (.int (ns.getD k 0)) [some (.lst false (ns.map D.int)), some (.int k)] := by
  by_cases h : k < ns.length
  · have e := of_ixI csub false ns (i := (k : Int)) (by omega) (by omega)
    have e' : atN ns (k : Int) = ns[k]?.getD 0 := by simp [atN]
    simp [at_f21, b_f21, h, e, e']
  · have e : ns.getD k 0 = 0 := by
      rw [List.getD_eq_getElem?_getD, List.getElem?_eq_none (by omega)]
      rfl
    simp [at_f21, b_f21, h]
/-! slots that a lent one leaves -/
def thOk (o : Option D) : Prop := ∀ d, o = some d → D.clean d = true
def thFz (o : Option D) : Prop := ∀ d, o = some d → D.fz d = true
theorem thOk.some {d : D} (h : D.clean d = true) : thOk (some d) := fun _ e => by cases e; exact h
theorem thOk.none : thOk none := fun _ e => by cases e
theorem thFz.some {d : D} (h : D.fz d = true) : thFz (some d) := fun _ e => by cases e; exact h
theorem thFz.none : thFz none := fun _ e => by cases e
@[simp] theorem thawS_none {ga : List Nat} {i k : Nat} {r : Env} {o : Option D} : thawS ga i k r o none = some (none :: r) := by cases o <;> rfl
theorem thawS_i {ga : List Nat} {i : Nat} {r : Env} {o : Option D} {d : D} : thawS ga i i r o (some d) = some (none :: r) := by cases o <;> simp [thawS]
theorem thawS_cl {ga : List Nat} {i k : Nat} {r : Env} {o o' : Option D} (hk : ¬ k = i) (h : thOk o') : thawS ga i k r o o' = some (o' :: r) := by
  cases o' with
  | none => cases o <;> rfl
  | some d =>
    have hc := h d rfl
    cases o <;> simp [thawS, hk, hc]
theorem thawS_fz {ga : List Nat} {i k : Nat} {r : Env} {o : Option D} (hk : ¬ k = i) (h : thFz o) (hg : ga.contains k = false) : thawS ga i k r o o = some (o :: r) := by
  cases o with
  | none => rfl
  | some d =>
    by_cases hc : d.clean = true
    · simp [thawS, hk, hc]
    · have hz := h d rfl
      simp only [thawS, hk, hc, hz, hg]
      simp
theorem thaw_cons {ga : List Nat} {i k : Nat} {o o' u : Option D} {α α' r : Env} (h : thaw ga i (k + 1) α α' = some r) (h1 : thawS ga i k r o o' = some (u :: r)) : thaw ga i k (o :: α) (o' :: α') = some (u :: r) := by
  simp only [thaw, h, Option.bind_some, h1]
theorem thaw_nil {ga : List Nat} {i k : Nat} : thaw ga i k [] [] = some [] := by simp only [thaw]
theorem ife_t {P : Pg} {mf : MOp → D → List D → Option (D × D)} {n : Nat} {t : T} {a b : S} {α β : Env} {o : RS} (h : evT P t α = .ok true β) (h2 : runS P mf n a β = o) : runS P mf n (.ife t a b) α = o := by
  rw [rs_ife, h]
  exact h2
theorem ife_f {P : Pg} {mf : MOp → D → List D → Option (D × D)} {n : Nat} {t : T} {a b : S} {α β : Env} {o : RS} (h : evT P t α = .ok false β) (h2 : runS P mf n b β = o) : runS P mf n (.ife t a b) α = o := by
  rw [rs_ife, h]
  exact h2
/-- l[k] += e, l[k] -= e -/
theorem augI_list {P : Pg} {n i j : Nat} {k e : E} {sub : Bool} {α : Env} {ns : List Int} {y : Int} (hi : α[i]? = some (some (.lst true (ns.map D.int)))) (hk : evE P k α = .ok (.int (j : Nat))) (hj : j < ns.length) (he : evE P e α = .ok (.int y)) :
    runS P moF n (.augI i [] k sub e) α = .nx (α.set i (some (.lst true ((ns.set j (sgn sub (ns.getD j 0) y)).map D.int)))) := by
  have k1 : ixKid (.lst true (ns.map D.int)) (.int (j : Nat)) = some j := by
    show ixN (ns.map D.int).length (j : Int) = _
    exact ixN_of rfl (by simpa using hj)
  have g1 : getAt [j] (.lst true (ns.map D.int)) = some (.int (ns.getD j 0)) := by
    simp only [getAt, D.own1, if_true, D.kids]
    rw [List.getElem?_map, List.getElem?_eq_getElem hj, List.getD_eq_getElem?_getD, List.getElem?_eq_getElem hj]
    rfl
  have s1 : moF .setI (.lst true (ns.map D.int)) [.int (j : Nat), .int (sgn sub (ns.getD j 0) y)] = some (.lst true ((ns.set j (sgn sub (ns.getD j 0) y)).map D.int), .non) := by
    rw [mo_setIL, ixN_of rfl (by simpa using hj)]
    simp
  simp only [runS]
  rw [hi]
  have ep : evPath P α [] (.lst true (ns.map D.int)) = .ok [] := by simp only [evPath]
  have gn : getAt [] (.lst true (ns.map D.int)) = some (.lst true (ns.map D.int)) := by simp only [getAt]
  simp only [ep, gn, hk, k1, g1, he]
  unfold mutAt
  rw [hi]
  simp only [gn, s1, setAt]
/-! a statement with a slot lent -/
def Th (ga : List Nat) (i : Nat) : Nat → Env → Env → Prop
  | _, [], [] => True
  | k, o :: α, o' :: α' => (k = i ∨ thOk o' ∨ (o = o' ∧ thFz o ∧ ga.contains k = false)) ∧ Th ga i (k + 1) α α'
  | _, _, _ => False
theorem Th.thaw {ga : List Nat} {i : Nat} : ∀ {k : Nat} {α α' : Env}, Th ga i k α α' → thaw ga i k α α' = some (if k ≤ i then α'.set (i - k) none else α')
  | k, [], [], _ => by
    rw [thaw_nil]
    split <;> rfl
  | k, o :: α, o' :: α', h => by
    have ih := Th.thaw h.2
    have e : thawS ga i k (if k + 1 ≤ i then α'.set (i - (k + 1)) none else α') o o' = some (if k ≤ i then (o' :: α').set (i - k) none else o' :: α') := by
      by_cases hk : k = i
      · subst hk
        rw [if_neg (by omega), if_pos (Nat.le_refl k), Nat.sub_self, List.set_cons_zero]
        cases o' with
        | none => exact thawS_none
        | some d => exact thawS_i
      · have e2 : (if k ≤ i then (o' :: α').set (i - k) none else o' :: α') = o' :: (if k + 1 ≤ i then α'.set (i - (k + 1)) none else α') := by
          by_cases h2 : k + 1 ≤ i
          · rw [if_pos (by omega), if_pos h2, show i - k = (i - (k + 1)) + 1 by omega, List.set_cons_succ]
          · rw [if_neg (by omega), if_neg h2]
        rw [e2]
        rcases h.1 with h1 | h1 | ⟨rfl, h1, h2⟩
        · exact absurd h1 hk
        · exact thawS_cl hk h1
        · exact thawS_fz hk h1 h2
    simp only [LD.thaw, ih, Option.bind_some, e]
  | k, [], _ :: _, h => h.elim
  | k, _ :: _, [], h => h.elim
theorem bor_th {P : Pg} {mf : MOp → D → List D → Option (D × D)} {n i : Nat} {s : S} {α α' : Env} {d : D} (hi : α[i]? = some (some d)) (hs : s.asgs.contains i = false) (h : runS P mf n s (α.set i (some d.freeze)) = .nx α') (ht : Th s.asgs i 0 α α') : runS P mf n (.bor i s) α = .nx (α'.set i (some d)) := by
  simp only [runS]
  rw [hi]
  simp only [hs, Bool.false_eq_true, if_false, h, ht.thaw]
  rw [if_pos (Nat.zero_le _), Nat.sub_zero, List.set_set]
theorem Th.nil {ga : List Nat} {i k : Nat} : Th ga i k [] [] := trivial
theorem Th.at {ga : List Nat} {i : Nat} {o o' : Option D} {α α' : Env} (h : Th ga i (i + 1) α α') : Th ga i i (o :: α) (o' :: α') := ⟨.inl rfl, h⟩
theorem Th.non {ga : List Nat} {i k : Nat} {o : Option D} {α α' : Env} (h : Th ga i (k + 1) α α') : Th ga i k (o :: α) (none :: α') := ⟨.inr (.inl .none), h⟩
theorem Th.cl {ga : List Nat} {i k : Nat} {o : Option D} {d : D} {α α' : Env} (hc : D.clean d = true) (h : Th ga i (k + 1) α α') : Th ga i k (o :: α) (some d :: α') := ⟨.inr (.inl (.some hc)), h⟩
theorem Th.fz {ga : List Nat} {i k : Nat} {d : D} {α α' : Env} (hc : D.fz d = true) (hg : ga.contains k = false) (h : Th ga i (k + 1) α α') : Th ga i k (some d :: α) (some d :: α') := ⟨.inr (.inr ⟨rfl, .some hc, hg⟩), h⟩




/-! nets: what arrows lead to -/
structure Arw where
  n : Int
  a : Str
  b : Str
  s : Int
  w : Int
inductive Way (R : List Arw) (x : Str) : Str → List Arw → Prop
  | nil : Way R x x []
  | snoc {y : Str} {l : List Arw} {r : Arw} : Way R x y l → r ∈ R → r.a = y → Way R x r.b (l ++ [r])
def Reach (R : List Arw) (x y : Str) : Prop := ∃ l, Way R x y l
theorem Way.mono {R S : List Arw} (h : ∀ r ∈ R, r ∈ S) {x y : Str} {l : List Arw} (w : Way R x y l) : Way S x y l := by
  induction w with
  | nil => exact .nil
  | snoc w m e ih => exact .snoc ih (h _ m) e
theorem Way.app {R : List Arw} {x y z : Str} {l m : List Arw} (w : Way R x y l) (v : Way R y z m) : Way R x z (l ++ m) := by
  induction v with
  | nil => rw [List.append_nil]; exact w
  | snoc v m e ih => rw [← List.append_assoc]; exact .snoc ih m e
theorem Way.mem {R : List Arw} {x y : Str} {l : List Arw} (w : Way R x y l) : ∀ r ∈ l, r ∈ R := by
  induction w with
  | nil => intro r h; cases h
  | snoc w m e ih =>
    intro r h
    rcases List.mem_append.mp h with h | h
    · exact ih r h
    · rw [List.mem_singleton.mp h]; exact m
theorem Reach.refl {R : List Arw} {x : Str} : Reach R x x := ⟨[], .nil⟩
theorem Reach.trans {R : List Arw} {x y z : Str} (h : Reach R x y) (k : Reach R y z) : Reach R x z := by
  obtain ⟨l, w⟩ := h
  obtain ⟨m, v⟩ := k
  exact ⟨_, w.app v⟩
theorem Reach.step {R : List Arw} {r : Arw} (h : r ∈ R) : Reach R r.a r.b := ⟨[r], .snoc .nil h rfl⟩
theorem Reach.mono {R S : List Arw} (h : ∀ r ∈ R, r ∈ S) {x y : Str} (w : Reach R x y) : Reach S x y := by
  obtain ⟨l, w⟩ := w
  exact ⟨l, w.mono h⟩
/-- what is closed and has the beginning has all that is reached -/
theorem Reach.closed {R : List Arw} {K : List Str} (c : ∀ r ∈ R, r.a ∈ K → r.b ∈ K) {x y : Str} (hx : x ∈ K) (h : Reach R x y) : y ∈ K := by
  obtain ⟨l, w⟩ := h
  induction w with
  | nil => exact hx
  | snoc w m e ih => exact c _ m (by rw [e]; exact ih)
/-! the kept and the turned -/
open Classical in
noncomputable def spl (R : List Arw) : List Arw × List Arw := R.foldl (fun p r => if Reach p.1 r.b r.a then (p.1, p.2 ++ [r]) else (p.1 ++ [r], p.2)) ([], [])
noncomputable def kept (R : List Arw) : List Arw := (spl R).1
noncomputable def abt (R : List Arw) : List Arw := (spl R).2
theorem spl_t {R : List Arw} {r : Arw} (h : Reach (kept R) r.b r.a) : spl (R ++ [r]) = (kept R, abt R ++ [r]) := by
  unfold spl
  rw [List.foldl_append]
  exact if_pos h
theorem spl_k {R : List Arw} {r : Arw} (h : ¬ Reach (kept R) r.b r.a) : spl (R ++ [r]) = (kept R ++ [r], abt R) := by
  unfold spl
  rw [List.foldl_append]
  exact if_neg h
theorem snoc_rec {α : Type} {P : List α → Prop} (h0 : P []) (h1 : ∀ l a, P l → P (l ++ [a])) (l : List α) : P l := by
  have h : ∀ m : List α, P m.reverse := fun m => by
    induction m with
    | nil => exact h0
    | cons a m ih => rw [List.reverse_cons]; exact h1 _ _ ih
  have e := h l.reverse
  rwa [List.reverse_reverse] at e
theorem kept_sub (R : List Arw) : (kept R).Sublist R := by
  refine snoc_rec (P := fun R => (kept R).Sublist R) (by unfold kept spl; exact List.nil_sublist _) (fun R r ih => ?_) R
  by_cases h : Reach (kept R) r.b r.a
  · unfold kept; rw [spl_t h]
    exact ih.trans (List.sublist_append_left _ _)
  · unfold kept; rw [spl_k h]
    exact ih.append (List.Sublist.refl _)
theorem abt_sub (R : List Arw) : (abt R).Sublist R := by
  refine snoc_rec (P := fun R => (abt R).Sublist R) (by unfold abt spl; exact List.nil_sublist _) (fun R r ih => ?_) R
  by_cases h : Reach (kept R) r.b r.a
  · unfold abt; rw [spl_t h]
    exact ih.append (List.Sublist.refl _)
  · unfold abt; rw [spl_k h]
    exact ih.trans (List.sublist_append_left _ _)
theorem kept_or (R : List Arw) : ∀ r ∈ R, r ∈ kept R ∨ r ∈ abt R := by
  refine snoc_rec (P := fun R => ∀ r ∈ R, r ∈ kept R ∨ r ∈ abt R) (fun r h => by cases h) (fun R r ih q hq => ?_) R
  by_cases h : Reach (kept R) r.b r.a
  · unfold kept abt; rw [spl_t h]
    rcases List.mem_append.mp hq with m | m
    · rcases ih q m with k | k
      · exact .inl k
      · exact .inr (List.mem_append_left _ k)
    · exact .inr (List.mem_append_right _ m)
  · unfold kept abt; rw [spl_k h]
    rcases List.mem_append.mp hq with m | m
    · rcases ih q m with k | k
      · exact .inl (List.mem_append_left _ k)
      · exact .inr k
    · exact .inl (List.mem_append_right _ m)
/-- a turned one's end leads to its beginning -/
theorem abt_reach (R : List Arw) : ∀ r ∈ abt R, Reach (kept R) r.b r.a := by
  refine snoc_rec (P := fun R => ∀ r ∈ abt R, Reach (kept R) r.b r.a) (fun r h => by unfold abt spl at h; cases h) (fun R r ih q hq => ?_) R
  by_cases h : Reach (kept R) r.b r.a
  · unfold abt at hq; rw [spl_t h] at hq
    have e : kept (R ++ [r]) = kept R := by show (spl (R ++ [r])).1 = _; rw [spl_t h]
    rw [e]
    rcases List.mem_append.mp hq with m | m
    · exact ih q m
    · rw [List.mem_singleton.mp m]; exact h
  · unfold abt at hq; rw [spl_k h] at hq
    have e : kept (R ++ [r]) = kept R ++ [r] := by show (spl (R ++ [r])).1 = _; rw [spl_k h]
    rw [e]
    exact (ih q hq).mono fun _ m => List.mem_append_left _ m
/-- no ring of arrows: what is reached by a step does not lead back -/
def NoRing (K : List Arw) : Prop := ∀ r ∈ K, ¬ Reach K r.b r.a
theorem reach_snoc {K : List Arw} {r : Arw} {x y : Str} (h : Reach (K ++ [r]) x y) : Reach K x y ∨ (Reach K x r.a ∧ Reach K r.b y) := by
  obtain ⟨l, w⟩ := h
  induction w with
  | nil => exact .inl .refl
  | @snoc z l q w m e ih =>
    rcases List.mem_append.mp m with m | m
    · have s : Reach K z q.b := by rw [← e]; exact .step m
      rcases ih with h | ⟨h1, h2⟩
      · exact .inl (h.trans s)
      · exact .inr ⟨h1, h2.trans s⟩
    · have e2 := List.mem_singleton.mp m
      subst e2
      rcases ih with h | ⟨h1, _⟩
      · exact .inr ⟨by rw [e]; exact h, .refl⟩
      · exact .inr ⟨h1, .refl⟩
theorem kept_noRing (R : List Arw) : NoRing (kept R) := by
  refine snoc_rec (P := fun R => NoRing (kept R)) (fun r h => by unfold kept spl at h; cases h) (fun R r ih => ?_) R
  by_cases h : Reach (kept R) r.b r.a
  · have e : kept (R ++ [r]) = kept R := by show (spl (R ++ [r])).1 = _; rw [spl_t h]
    rw [e]; exact ih
  · have e : kept (R ++ [r]) = kept R ++ [r] := by show (spl (R ++ [r])).1 = _; rw [spl_k h]
    rw [e]
    intro q hq k
    rcases List.mem_append.mp hq with m | m
    · rcases reach_snoc k with k | ⟨k1, k2⟩
      · exact ih q m k
      · exact h (k2.trans ((Reach.step m).trans k1))
    · rw [List.mem_singleton.mp m] at k
      rcases reach_snoc k with k | ⟨k1, k2⟩
      · exact h k
      · exact h k1
/-! looking around from a point: those met so far, and a way to each -/
structure Met (R : List Arw) (x : Str) (i : Nat) (K : List Str) (V : List (List Arw)) : Prop where
  nd : K.Nodup
  hl : K.length = V.length
  h0 : K[0]? = some x
  way : ∀ (k : Nat) (y : Str) (l : List Arw), K[k]? = some y → V[k]? = some l → Way R x y l ∧ (x :: l.map (·.b)).Nodup ∧ ∀ g ∈ l, g.b ∈ K
  cl : ∀ (k : Nat) (y : Str), k < i → K[k]? = some y → ∀ r ∈ R, r.a = y → r.b ∈ K
  sub : ∀ y ∈ K, y = x ∨ ∃ r ∈ R, r.b = y
theorem Met.mem {R : List Arw} {x : Str} {i : Nat} {K : List Str} {V : List (List Arw)} (m : Met R x i K V) : x ∈ K := List.mem_of_getElem? m.h0
theorem Met.start (R : List Arw) (x : Str) : Met R x 0 [x] [[]] where
  nd := by simp
  hl := rfl
  h0 := rfl
  way k y l h1 h2 := by
    cases k with
    | zero =>
      cases h1; cases h2
      exact ⟨.nil, by simp, fun g h => by cases h⟩
    | succ k => simp at h1
  cl k y h := by omega
  sub y h := .inl (List.mem_singleton.mp h)
theorem nodup_le {α : Type} [DecidableEq α] : ∀ {l m : List α}, l.Nodup → (∀ x ∈ l, x ∈ m) → l.length ≤ m.length
  | [], m, _, _ => Nat.zero_le _
  | a :: l, m, nd, h => by
    have nd' := List.nodup_cons.mp nd
    have ha := h a List.mem_cons_self
    have e := nodup_le (l := l) (m := m.erase a) nd'.2 fun x hx => (List.mem_erase_of_ne (fun e => nd'.1 (by rw [← e]; exact hx))).mpr (h x (List.mem_cons_of_mem _ hx))
    have e2 := List.length_erase_of_mem ha
    have : 0 < m.length := List.length_pos_of_mem ha
    simp only [List.length_cons]
    omega
theorem Met.len {R : List Arw} {x : Str} {i : Nat} {K : List Str} {V : List (List Arw)} (m : Met R x i K V) : K.length ≤ R.length + 1 := by
  have h := nodup_le (m := x :: R.map (·.b)) m.nd fun y hy => by
    rcases m.sub y hy with e | ⟨r, hr, e⟩
    · rw [e]; exact List.mem_cons_self
    · exact List.mem_cons_of_mem _ (List.mem_map.mpr ⟨r, hr, e⟩)
  simpa using h
/-- one more -/
theorem Met.put {R : List Arw} {x here : Str} {i : Nat} {K : List Str} {V : List (List Arw)} {l : List Arw} {r : Arw} (m : Met R x i K V) (hk : K[i]? = some here) (hv : V[i]? = some l) (hr : r ∈ R) (ha : r.a = here) (hn : r.b ∉ K) : Met R x i (K ++ [r.b]) (V ++ [l ++ [r]]) where
  nd := List.nodup_append.mpr ⟨m.nd, by simp, fun a h b hb => by rw [List.mem_singleton.mp hb]; exact fun e => hn (by rw [← e]; exact h)⟩
  hl := by simp [m.hl]
  h0 := by
    have h := m.h0
    have hp : 0 < K.length := List.length_pos_of_mem m.mem
    rw [List.getElem?_append_left hp]; exact h
  way k y q h1 h2 := by
    by_cases hk2 : k < K.length
    · rw [List.getElem?_append_left hk2] at h1
      rw [List.getElem?_append_left (by rw [← m.hl]; exact hk2)] at h2
      obtain ⟨w1, w2, w3⟩ := m.way k y q h1 h2
      exact ⟨w1, w2, fun g hg => List.mem_append_left _ (w3 g hg)⟩
    · have hk3 : k = K.length := by
        have := (List.getElem?_eq_some_iff.mp h1).1
        simp at this
        omega
      subst hk3
      rw [List.getElem?_append_right (Nat.le_refl _), Nat.sub_self] at h1
      rw [m.hl, List.getElem?_append_right (Nat.le_refl _), Nat.sub_self] at h2
      cases h1; cases h2
      obtain ⟨w1, w2, w3⟩ := m.way i here l hk hv
      refine ⟨.snoc w1 hr ha, ?_, fun g hg => ?_⟩
      · rw [List.map_append, ← List.cons_append]
        refine List.nodup_append.mpr ⟨w2, by simp, fun a h b hb => ?_⟩
        have hb' : b = r.b := by simpa using hb
        rw [hb']
        intro e
        rw [e] at h
        rcases List.mem_cons.mp h with h | h
        · exact hn (by rw [h]; exact m.mem)
        · obtain ⟨g, hg, e2⟩ := List.mem_map.mp h
          exact hn (by rw [← e2]; exact w3 g hg)
      · rcases List.mem_append.mp hg with h | h
        · exact List.mem_append_left _ (w3 g h)
        · rw [List.mem_singleton.mp h]; exact List.mem_append_right _ (List.mem_singleton.mpr rfl)
  cl k y h1 h2 q hq e := by
    have hi : i < K.length := (List.getElem?_eq_some_iff.mp hk).1
    rw [List.getElem?_append_left (by omega)] at h2
    exact List.mem_append_left _ (m.cl k y h1 h2 q hq e)
  sub y h := by
    rcases List.mem_append.mp h with h | h
    · exact m.sub y h
    · exact .inr ⟨r, hr, (List.mem_singleton.mp h).symm⟩
/-- a point is done -/
theorem Met.next {R : List Arw} {x here : Str} {i : Nat} {K : List Str} {V : List (List Arw)} (m : Met R x i K V) (hk : K[i]? = some here) (h : ∀ r ∈ R, r.a = here → r.b ∈ K) : Met R x (i + 1) K V where
  nd := m.nd
  hl := m.hl
  h0 := m.h0
  way := m.way
  cl k y h1 h2 := by
    by_cases e : k < i
    · exact m.cl k y e h2
    · have e : k = i := by omega
      subst e
      rw [hk] at h2
      cases h2
      exact h
  sub := m.sub
theorem Met.done {R : List Arw} {x y : Str} {i : Nat} {K : List Str} {V : List (List Arw)} (m : Met R x i K V) (hi : K.length ≤ i) : Reach R x y ↔ y ∈ K := by
  constructor
  · intro h
    refine h.closed (fun r hr ha => ?_) m.mem
    obtain ⟨k, hk, e⟩ := List.getElem_of_mem ha
    exact m.cl k r.a (by omega) (by rw [List.getElem?_eq_getElem hk, e]) r hr rfl
  · intro h
    obtain ⟨k, hk, e⟩ := List.getElem_of_mem h
    exact ⟨_, (m.way k y (V[k]'(by rw [← m.hl]; exact hk)) (by rw [List.getElem?_eq_getElem hk, e]) (List.getElem?_eq_getElem _)).1⟩
/-- a way's arrows go end to end -/
theorem Way.ends {R : List Arw} {x y : Str} {l : List Arw} (w : Way R x y l) : (∀ k (h : k + 1 < l.length), (l[k + 1]).a = (l[k]'(by omega)).b) ∧ (∀ h : 0 < l.length, (l[0]).a = x) ∧ (l = [] → x = y) ∧ (∀ h : 0 < l.length, (l[l.length - 1]'(by omega)).b = y) := by
  induction w with
  | nil => exact ⟨fun k h => by simp at h, fun h => by simp at h, fun _ => rfl, fun h => by simp at h⟩
  | @snoc y l r w m e ih =>
    obtain ⟨i1, i2, i3, i4⟩ := ih
    refine ⟨fun k h => ?_, fun h => ?_, fun h => by simp at h, fun h => by simp⟩
    · have h' : k + 1 < l.length + 1 := by simpa using h
      by_cases hk : k + 1 < l.length
      · rw [List.getElem_append_left hk, List.getElem_append_left (by omega)]
        exact i1 k hk
      · have hk : l.length = k + 1 := by omega
        rw [List.getElem_append_right (by omega), List.getElem_append_left (by omega)]
        have e4 := i4 (by omega)
        simp only [hk, Nat.sub_self, List.getElem_cons_zero]
        rw [e, ← e4]
        congr 2
        omega
    · by_cases hl : 0 < l.length
      · rw [List.getElem_append_left hl]
        exact i2 hl
      · have hl : l = [] := List.length_eq_zero_iff.mp (by omega)
        subst hl
        simp only [List.nil_append, List.getElem_cons_zero]
        rw [e, ← i3 rfl]


/-! a net as data, and its methods -/
def alphN : Str := "abcdefghijklmnopqrstuvwxyz"
structure NmOk (x : Str) : Prop where
  c : ∀ c ∈ x.cps.toList, c ∈ alphN.cps.toList
  l : 1 ≤ x.length ∧ x.length ≤ 8
def Arw.d (r : Arw) : D := .tup [.int r.n, .str r.a, .str r.b, .int r.s, .int r.w]
structure Nt where
  ns : List Str
  hv : List Int
  ar : List Arw
  gv : Int
  sm : List (Str × Str)
  ms : List (Str × Str × Int)
def smD (p : Str × Str) : D := .tup [.str p.1, .str p.2]
def msD (p : Str × Str × Int) : D := .tup [.str p.1, .str p.2.1, .int p.2.2]
abbrev netF : List Str := ["halves", "drawn_arrows", "given", "level_pairs", "near_pairs"]
def Arw.k (r : Arw) : Key := .inl r.n
def hvD (b : Bool) (N : Nt) : D := .dct b (kS N.ns) (N.hv.map D.int)
def arD (b : Bool) (N : Nt) : D := .dct b (N.ar.map Arw.k) (N.ar.map Arw.d)
def Nt.d (b : Bool) (N : Nt) : D := .ins b (cid 8) netF [hvD b N, arD b N, .int N.gv, .lst b (N.sm.map smD), .lst b (N.ms.map msD)]
structure Nt.Ok (N : Nt) : Prop where
  nd : N.ns.Nodup
  hl : N.hv.length = N.ns.length
  nm : ∀ x ∈ N.ns, NmOk x
  hb : ∀ h ∈ N.hv, 0 ≤ h ∧ h ≤ 50
  l20 : N.ns.length ≤ 20
  so : N.ar.Pairwise fun r q => r.n < q.n
  gv : ∀ r ∈ N.ar, 0 ≤ r.n ∧ r.n < N.gv
  g0 : 0 ≤ N.gv
  en : ∀ r ∈ N.ar, r.a ∈ N.ns ∧ r.b ∈ N.ns ∧ r.a ≠ r.b
  rg : ∀ r ∈ N.ar, (1 ≤ r.s ∧ r.s ≤ 20) ∧ 1 ≤ r.w ∧ r.w ≤ 1000000
  l40 : N.ar.length ≤ 40
theorem arL_fz (R : List Arw) : D.fzL (R.map Arw.d) = true := fzL_all fun d h => by
  obtain ⟨r, _, rfl⟩ := List.mem_map.mp h
  simp [Arw.d]
theorem arL_fr (R : List Arw) : D.freezeL (R.map Arw.d) = R.map Arw.d := freezeL_fz (arL_fz R)
theorem smL_fz (R : List (Str × Str)) : D.fzL (R.map smD) = true := fzL_all fun d h => by
  obtain ⟨r, _, rfl⟩ := List.mem_map.mp h
  simp [smD]
theorem msL_fz (R : List (Str × Str × Int)) : D.fzL (R.map msD) = true := fzL_all fun d h => by
  obtain ⟨r, _, rfl⟩ := List.mem_map.mp h
  simp [msD]
@[simp] theorem hvD_fz (N : Nt) : D.fz (hvD false N) = true := by simp [hvD]
@[simp] theorem arD_fz (N : Nt) : D.fz (arD false N) = true := by simp [arD, arL_fz]
@[simp] theorem hvD_fr (b : Bool) (N : Nt) : D.freeze (hvD b N) = hvD false N := by simp [hvD]
@[simp] theorem arD_fr (b : Bool) (N : Nt) : D.freeze (arD b N) = arD false N := by simp [arD, arL_fr]
@[simp] theorem Nt.fz (N : Nt) : D.fz (N.d false) = true := by simp [Nt.d, smL_fz, msL_fz]
@[simp] theorem Nt.fr (b : Bool) (N : Nt) : D.freeze (N.d b) = N.d false := by
  have h1 := freezeL_fz (smL_fz N.sm)
  have h2 := freezeL_fz (msL_fz N.ms)
  simp [Nt.d, h1, h2]
@[simp] theorem Nt.cls (b : Bool) (N : Nt) : clsOf (N.d b) = some (cid 8) := id rfl
@[simp] theorem Nt.f_h (b : Bool) (N : Nt) : opF csub (.fld "halves") [N.d b] = some (hvD b N) := by unfold Nt.d; simp
@[simp] theorem Nt.f_a (b : Bool) (N : Nt) : opF csub (.fld "drawn_arrows") [N.d b] = some (arD b N) := by unfold Nt.d; simp
@[simp] theorem Nt.f_g (b : Bool) (N : Nt) : opF csub (.fld "given") [N.d b] = some (.int N.gv) := by unfold Nt.d; simp
theorem Nt.nf (b : Bool) (N : Nt) {m : Str} (h : netF.contains m = false) : noField m (N.d b) = true := by
  show (!netF.contains m) = true
  rw [h]
  rfl
/-- a call of a method -/
theorem metC_net {P : Pg} {m f : Str} {dvs : List Cst} {as : List A} {it : Itm} {α : Env} {b : Bool} {N : Nt} (h1 : netF.contains m = false) (h2 : P.mt (cid 8) m = some f) : metC P m dvs as it α (some (N.d b)) = (evAs P as α).bind fun its α => callC P f dvs (it :: its) α := by
  unfold metC
  simp only [Nt.cls, Nt.nf b N h1, if_true, h2]
theorem mtD_net {P : Pg} {m f : Str} {dvs : List Cst} {l : R1 (List D)} {b : Bool} {N : Nt} (h1 : netF.contains m = false) (h2 : P.mt (cid 8) m = some f) : mtD P m dvs l (N.d b) = l.bind fun ds => (P.cal f (N.d b :: (ds ++ dvs.map Cst.d))).val := by
  unfold mtD
  simp only [Nt.cls, Nt.nf b N h1, if_true, h2]
/-! the arrows, by number -/
theorem ar_look {R : List Arw} (so : R.Pairwise fun r q => r.n < q.n) {r : Arw} (h : r ∈ R) : (R.map Arw.k).findIdx? (fun j => decide (j = Sum.inl r.n)) = some (R.findIdx fun q => q.n == r.n) ∧ R[R.findIdx fun q => q.n == r.n]? = some r := by
  induction R with
  | nil => cases h
  | cons q R ih =>
    have s := List.pairwise_cons.mp so
    rcases List.mem_cons.mp h with rfl | h
    · simp [Arw.k, List.findIdx?_cons, List.findIdx_cons]
    · have ne : q.n ≠ r.n := by have := s.1 r h; omega
      obtain ⟨i1, i2⟩ := ih s.2 h
      have nb : (q.n == r.n) = false := by simpa using ne
      rw [List.map_cons, List.findIdx?_cons, List.findIdx_cons, i1, nb]
      simp [Arw.k, ne, i2]
theorem ar_not {R : List Arw} {n : Int} (h : ∀ r ∈ R, r.n ≠ n) : (R.map Arw.k).findIdx? (fun j => decide (j = Sum.inl n)) = none := by
  rw [List.findIdx?_eq_none_iff]
  intro k hk
  obtain ⟨r, hr, rfl⟩ := List.mem_map.mp hk
  simp [Arw.k, h r hr]
theorem ar_ix (b : Bool) {N : Nt} (so : N.ar.Pairwise fun r q => r.n < q.n) {r : Arw} (h : r ∈ N.ar) : opF csub .ix [arD b N, .int r.n] = some r.d := by
  show (some (Sum.inl r.n : Key)).bind (fun k => ((N.ar.map Arw.k).findIdx? fun j => decide (j = k)).bind fun i => (N.ar.map Arw.d)[i]?) = _
  obtain ⟨i1, i2⟩ := ar_look so h
  simp only [Option.bind_some, i1, List.getElem?_map, i2]
  rfl
theorem ar_in (b : Bool) (N : Nt) (n : Int) : opF csub .notin [.int n, arD b N] = some (.bl (!decide (∃ r ∈ N.ar, r.n = n))) := by
  show (some (Sum.inl n : Key)).map (fun k => D.bl (((N.ar.map Arw.k).any fun j => decide (j = k)) != true)) = _
  simp [Arw.k]
  rw [Bool.eq_iff_iff]
  simp [Arw.k]
theorem ar_len (b : Bool) (N : Nt) : opF csub .len [arD b N] = some (.int N.ar.length) := by
  have h := of_lenD csub b (N.ar.map Arw.k) (N.ar.map Arw.d)
  simpa [arD] using h
theorem hv_len (b : Bool) (N : Nt) : opF csub .len [hvD b N] = some (.int N.ns.length) := by
  have h := of_lenD csub b (kS N.ns) (N.hv.map D.int)
  simpa [hvD] using h
theorem sorted_id {l : List Int} (h : l.Pairwise (· ≤ ·)) : sortI l = l := sorted_one (sortI_perm l) (sortI_sorted l) h
theorem ar_sorted (b : Bool) {N : Nt} (so : N.ar.Pairwise fun r q => r.n < q.n) (h : N.ar.length ≤ 40) : opF csub .sorted [arD b N] = some (.lst true (N.ar.map fun r => .int r.n)) := by
  have e := of_sortedDI csub b (N.ar.map (·.n)) (N.ar.map Arw.d) (by rw [List.length_map]; omega)
  have s : sortI (N.ar.map (·.n)) = N.ar.map (·.n) := sorted_id (List.pairwise_map.mpr (so.imp fun h => Int.le_of_lt h))
  rw [s, List.map_map, List.map_map] at e
  exact e
theorem fnf18 (N : Nt) (ok : N.Ok) : run_f18 [N.d false] = .ok (.lst true (N.ar.map Arw.d)) [some (N.d false)] := by
  have e := ar_sorted false ok.so ok.l40
  have hl := ok.l40
  have hn : N.ar.length < lim := by simp only [lim]; omega
  have g : lcGo (lcTurn pg_f3 (.one 1) .tt c_f18_0 [some (N.d false), none]) (N.ar.map fun r => .int r.n) [] = .ok (.lst true (N.ar.map Arw.d)) := by
    rw [lcGo_mapf (e := fun r : Arw => D.int r.n) (h := Arw.d) N.ar [] fun r hr => ?_]
    · simp
    · have e2 := ar_ix false ok.so hr
      simp [lcTurn, c_f18_0, e2]
  have fr : D.freezeL (N.ar.map fun r => D.int r.n) = N.ar.map fun r => D.int r.n := freezeL_fz (fzL_all fun d h => by
    obtain ⟨_, _, rfl⟩ := List.mem_map.mp h
    rfl)
  simp [at_f18, b_f18, e, hn, g, fr]



/-! putting in and taking out -/
theorem fnf9 : run_f9 [.ins true (cid 8) [] []] = .ok .non [some ((⟨[], [], [], 0, [], []⟩ : Nt).d true)] := by
  simp [at_f9, b_f9, Nt.d, hvD, arD, getAt, setAt]
theorem alph_in {c : Nat} (h : c ∈ alphN.cps.toList) : opF csub .in_ [.str ⟨#[c]⟩, .str "abcdefghijklmnopqrstuvwxyz"] = some (.bl true) := by
  show some (D.bl (decide (c ∈ (Str.ofString "abcdefghijklmnopqrstuvwxyz").cps.toList) != false)) = _
  have h' : c ∈ (Str.ofString "abcdefghijklmnopqrstuvwxyz").cps.toList := h
  rw [decide_eq_true h']
  rfl
theorem fnf6 (x : Str) (ok : NmOk x) : run_f6 [.str x] = .ok (.bl true) [some (.str x)] := by
  have hl := ok.l
  have hn : x.length < lim := by simp only [lim]; omega
  have hc : x.cps.toList.length < lim := hn
  have h1 : (1 : Int) ≤ (x.length : Int) := by omega
  have h2 : (x.length : Int) ≤ 8 := by omega
  have it : itF .lst [.str x] = some (x.cps.toList.map fun c => D.str ⟨#[c]⟩) := id rfl
  have g : lcGo (lcTurn pg_f5 (.one 1) .tt c_f6_0 [some (.str x), none]) (x.cps.toList.map fun c => D.str ⟨#[c]⟩) [] = .ok (.lst true (x.cps.toList.map fun _ => D.bl true)) := by
    rw [lcGo_mapf (e := fun c : Nat => D.str ⟨#[c]⟩) (h := fun _ => D.bl true) _ [] fun c hm => ?_]
    · simp
    · have e := alph_in (ok.c c hm)
      simp [lcTurn, c_f6_0, e]
  have e2 : opF csub .all [.lst true (x.cps.toList.map fun _ => D.bl true)] = some (.bl true) := by
    have h := of_all csub true ((x.cps.toList.map fun _ => true).map D.bl)
    rw [bls_map, List.map_map] at h
    have e3 : (x.cps.toList.map fun _ => true).all id = true := by rw [List.all_eq_true]; intro b hb; obtain ⟨_, _, rfl⟩ := List.mem_map.mp hb; rfl
    rw [Option.map_some, e3] at h
    exact h
  have hc2 : x.cps.size < lim := hn
  simp [at_f6, b_f6, hn, h1, h2, it, hc, hc2, g, e2]
theorem fnf7 (x l m : Int) (h : l ≤ x ∧ x ≤ m) : run_f7 [.int x, .int l, .int m] = .ok .non [some (.int x), some (.int l), some (.int m)] := by
  have h1 : ¬ x < l := by omega
  have h2 : ¬ m < x := by omega
  simp [at_f7, b_f7, b_f7_0, h1, h2]
theorem fnf8 (x m : Int) (h : x < m) : run_f8 [.int x, .int m] = .ok .non [some (.int x), some (.int m)] := by
  have h1 : ¬ m ≤ x := by omega
  simp [at_f8, b_f8, b_f8_0, h1]
theorem hv_in (b : Bool) (N : Nt) (x : Str) : opF csub .in_ [.str x, hvD b N] = some (.bl (decide (x ∈ N.ns))) := of_inDS csub b N.ns _ x
theorem hv_notin (b : Bool) (N : Nt) (x : Str) : opF csub .notin [.str x, hvD b N] = some (.bl (!decide (x ∈ N.ns))) := of_notinDS csub b N.ns _ x
theorem fnf10 (N : Nt) (x y : Str) (hx : x ∈ N.ns) (hy : y ∈ N.ns) (ne : x ≠ y) : run_f10 [N.d false, .str x, .str y] = .ok .non [some (N.d false), some (.str x), some (.str y)] := by
  have e : (x == y) = false := by simpa using ne
  simp [at_f10, b_f10, b_f10_1, b_f10_0, b_f10_2, forGo, forD, hv_notin, hx, hy, e]
@[simp] theorem Nt.p_h (N : Nt) : fldKid "halves" (N.d true) = some 0 := by unfold Nt.d; simp [fldKid]
@[simp] theorem Nt.p_a (N : Nt) : fldKid "drawn_arrows" (N.d true) = some 1 := by unfold Nt.d; simp [fldKid]
@[simp] theorem Nt.g_h (N : Nt) : getAt [0] (N.d true) = some (hvD true N) := by unfold Nt.d; simp [getAt, D.own1, D.kids]
@[simp] theorem Nt.g_a (N : Nt) : getAt [1] (N.d true) = some (arD true N) := by unfold Nt.d; simp [getAt, D.own1, D.kids]
theorem Nt.s_h (N : Nt) (M : List Str) (H : List Int) : setAt [0] (N.d true) (.dct true (kS M) (H.map D.int)) = Nt.d true { N with ns := M, hv := H } := by unfold Nt.d; simp [setAt, D.kids, D.setKid, hvD, arD]
theorem Nt.s_a (N : Nt) (R : List Arw) : setAt [1] (N.d true) (.dct true (R.map Arw.k) (R.map Arw.d)) = Nt.d true { N with ar := R } := by unfold Nt.d; simp [setAt, D.kids, D.setKid, hvD, arD]
theorem Nt.s_g (N : Nt) (g : Int) : moF (.setF "given") (N.d true) [.int g] = some (Nt.d true { N with gv := g }, .non) := by unfold Nt.d; simp [hvD, arD]
/-- a point more -/
abbrev Nt.putP (N : Nt) (x : Str) (h : Int) : Nt := { N with ns := N.ns ++ [x], hv := N.hv ++ [h] }
abbrev Nt.putA (N : Nt) (x y : Str) (s w : Int) : Nt := { N with ar := N.ar ++ [⟨N.gv, x, y, s, w⟩], gv := N.gv + 1 }
abbrev Nt.takeA (N : Nt) (k : Nat) : Nt := { N with ar := N.ar.eraseIdx k }
theorem Nt.Ok.putP {N : Nt} (ok : N.Ok) {x : Str} {h : Int} (hx : NmOk x) (hn : x ∉ N.ns) (hh : 0 ≤ h ∧ h ≤ 50) (hl : N.ns.length < 20) : (N.putP x h).Ok where
  nd := List.nodup_append.mpr ⟨ok.nd, by simp, fun a ha b hb => by rw [List.mem_singleton.mp hb]; exact fun e => hn (by rw [← e]; exact ha)⟩
  hl := by simp [ok.hl]
  nm z m := by
    rcases List.mem_append.mp m with m | m
    · exact ok.nm z m
    · rw [List.mem_singleton.mp m]; exact hx
  hb z m := by
    rcases List.mem_append.mp m with m | m
    · exact ok.hb z m
    · rw [List.mem_singleton.mp m]; exact hh
  l20 := by simp; omega
  so := ok.so
  gv := ok.gv
  g0 := ok.g0
  en r m := ⟨List.mem_append_left _ (ok.en r m).1, List.mem_append_left _ (ok.en r m).2.1, (ok.en r m).2.2⟩
  rg := ok.rg
  l40 := ok.l40
theorem Nt.Ok.putA {N : Nt} (ok : N.Ok) {x y : Str} {s w : Int} (hx : x ∈ N.ns) (hy : y ∈ N.ns) (ne : x ≠ y) (hs : 1 ≤ s ∧ s ≤ 20) (hw : 1 ≤ w ∧ w ≤ 1000000) (hl : N.ar.length < 40) : (N.putA x y s w).Ok where
  nd := ok.nd
  hl := ok.hl
  nm := ok.nm
  hb := ok.hb
  l20 := ok.l20
  so := List.pairwise_append.mpr ⟨ok.so, by simp, fun r hr q hq => by rw [List.mem_singleton.mp hq]; exact (ok.gv r hr).2⟩
  gv r m := by
    show 0 ≤ r.n ∧ r.n < N.gv + 1
    have g0 := ok.g0
    rcases List.mem_append.mp m with m | m
    · have := ok.gv r m; omega
    · rw [List.mem_singleton.mp m]; exact ⟨g0, by show N.gv < N.gv + 1; omega⟩
  g0 := by have := ok.g0; show 0 ≤ N.gv + 1; omega
  en r m := by
    rcases List.mem_append.mp m with m | m
    · exact ok.en r m
    · rw [List.mem_singleton.mp m]; exact ⟨hx, hy, ne⟩
  rg r m := by
    rcases List.mem_append.mp m with m | m
    · exact ok.rg r m
    · rw [List.mem_singleton.mp m]; exact ⟨hs, hw⟩
  l40 := by simp; omega
theorem Nt.Ok.takeA {N : Nt} (ok : N.Ok) (k : Nat) : (N.takeA k).Ok where
  nd := ok.nd
  hl := ok.hl
  nm := ok.nm
  hb := ok.hb
  l20 := ok.l20
  so := ok.so.sublist (List.eraseIdx_sublist _ _)
  gv r m := ok.gv r ((List.eraseIdx_sublist _ _).subset m)
  g0 := ok.g0
  en r m := ok.en r ((List.eraseIdx_sublist _ _).subset m)
  rg r m := ok.rg r ((List.eraseIdx_sublist _ _).subset m)
  l40 := Nat.le_trans (List.eraseIdx_sublist _ _).length_le ok.l40
theorem mo_putH {N : Nt} (ok : N.Ok) {x : Str} (h : Int) (hn : x ∉ N.ns) : moF .setI (hvD true N) [.str x, .int h] = some (.dct true (kS (N.ns ++ [x])) ((N.hv ++ [h]).map D.int), .non) := by
  have hl := ok.l20
  have e := mo_setDS ok.nd (l := N.hv.map D.int) (by simp [ok.hl]) (by simp only [lim]; omega) x (.int h)
  rw [putK_new hn, putV_new hn (by simp [ok.hl])] at e
  rw [List.map_append]
  exact e
theorem fnf11 (N : Nt) (ok : N.Ok) (x : Str) (h : Int) (hx : NmOk x) (hn : x ∉ N.ns) (hh : 0 ≤ h ∧ h ≤ 50) (hl : N.ns.length < 20) : run_f11 [N.d true, .str x, .int h] = .ok .non [some ((N.putP x h).d true), some (.str x), some (.int h)] := by
  have e1 := fnf6 x hx
  have e2 := fnf7 h 0 50 hh
  have e3 := fnf8 N.ns.length 20 (by omega)
  have e4 := mo_putH ok h hn
  have e5 := Nt.s_h N (N.ns ++ [x]) (N.hv ++ [h])
  simp [at_f11, b_f11, b_f11_0, b_f11_1, e1, e2, e3, e4, e5, hv_in, hv_len, hn, -List.map_append]
theorem mo_putA {N : Nt} (ok : N.Ok) (r : Arw) (hg : r.n = N.gv) : moF .setI (arD true N) [.int r.n, r.d] = some (.dct true ((N.ar ++ [r]).map Arw.k) ((N.ar ++ [r]).map Arw.d), .non) := by
  have hl := ok.l40
  show (if (N.ar.map Arw.k).length < lim then _ else _) = _
  rw [if_pos (by rw [List.length_map]; simp only [lim]; omega)]
  have e := ar_not (R := N.ar) (n := r.n) fun q hq => by have := ok.gv q hq; omega
  show (some (Sum.inl r.n : Key)).bind (fun k => match (N.ar.map Arw.k).findIdx? fun j => decide (j = k) with
    | some i => if dupAt (N.ar.map Arw.k) i k = true then none else some (D.dct true (N.ar.map Arw.k) ((N.ar.map Arw.d).set i r.d), D.non)
    | none => some (.dct true (N.ar.map Arw.k ++ [k]) (N.ar.map Arw.d ++ [r.d]), .non)) = _
  simp only [Option.bind_some, e]
  simp [Arw.k]
theorem fnf12 (N : Nt) (ok : N.Ok) (x y : Str) (s w : Int) (hx : x ∈ N.ns) (hy : y ∈ N.ns) (ne : x ≠ y) (hs : 1 ≤ s ∧ s ≤ 20) (hw : 1 ≤ w ∧ w ≤ 1000000) (hl : N.ar.length < 40) :
    run_f12 [N.d true, .str x, .str y, .int s, .int w] = .ok (.int N.gv) [some ((N.putA x y s w).d true), some (.str x), some (.str y), some (.int s), some (.int w)] := by
  have e1 := fnf10 N x y hx hy ne
  have e2 := fnf7 s 1 20 hs
  have e3 := fnf7 w 1 1000000 hw
  have e4 := fnf8 N.ar.length 40 (by omega)
  have e5 : moF .setI (arD true N) [.int N.gv, .tup [.int N.gv, .str x, .str y, .int s, .int w]] = _ := mo_putA ok ⟨N.gv, x, y, s, w⟩ rfl
  have e6 := Nt.s_a N (N.ar ++ [⟨N.gv, x, y, s, w⟩])
  have e7 := Nt.s_g { N with ar := N.ar ++ [⟨N.gv, x, y, s, w⟩] } (N.gv + 1)
  have hd : D.tup [.int N.gv, .str x, .str y, .int s, .int w] = (⟨N.gv, x, y, s, w⟩ : Arw).d := rfl
  have p6 : powOk 10 6 = true := by decide +kernel
  have l5 : (5 : Nat) < lim := by decide
  have m1 := mtD_net (P := pg_f11) (m := "both_there") (f := fid 10) (dvs := []) (l := .ok [.str x, .str y]) (b := false) (N := N) (by decide +kernel) (by simp)
  simp [at_f12, b_f12, m1, e1, e2, e3, e4, e5, e6, e7, p6, l5, ar_len, -List.map_append]
theorem dupAt_no {R : List Arw} (so : R.Pairwise fun r q => r.n < q.n) {k : Nat} {r : Arw} (h : R[k]? = some r) : dupAt (R.map Arw.k) k (Sum.inl r.n) = false := by
  unfold dupAt
  rw [Bool.eq_false_iff]
  intro z
  obtain ⟨j, hj, e⟩ := List.any_eq_true.mp z
  rw [← List.map_drop] at hj
  obtain ⟨q, hq, rfl⟩ := List.mem_map.mp hj
  have e' : q.n = r.n := by simpa [Arw.k] using e
  obtain ⟨i, hi, e2⟩ := List.getElem_of_mem hq
  rw [List.getElem_drop] at e2
  obtain ⟨hk, e3⟩ := List.getElem?_eq_some_iff.mp h
  have := List.pairwise_iff_getElem.mp so k (k + 1 + i) hk (by simp at hi; omega) (by omega)
  rw [e3, e2] at this
  omega
theorem ar_at {R : List Arw} (so : R.Pairwise fun r q => r.n < q.n) {k : Nat} {r : Arw} (h : R[k]? = some r) : (R.map Arw.k).findIdx? (fun j => decide (j = Sum.inl r.n)) = some k := by
  obtain ⟨hk, e⟩ := List.getElem?_eq_some_iff.mp h
  obtain ⟨i1, i2⟩ := ar_look so (List.mem_of_getElem? h)
  rw [i1]
  obtain ⟨hj, e2⟩ := List.getElem?_eq_some_iff.mp i2
  congr 1
  rcases Nat.lt_trichotomy (R.findIdx fun q => q.n == r.n) k with c | c | c
  · have := List.pairwise_iff_getElem.mp so _ _ hj hk c
    rw [e, e2] at this
    omega
  · exact c
  · have := List.pairwise_iff_getElem.mp so _ _ hk hj c
    rw [e, e2] at this
    omega
theorem mapErase {α β : Type} (f : α → β) : ∀ (l : List α) (k : Nat), (l.map f).eraseIdx k = (l.eraseIdx k).map f
  | [], _ => rfl
  | _ :: _, 0 => rfl
  | a :: l, k + 1 => by
    rw [List.map_cons, List.eraseIdx_cons_succ, List.eraseIdx_cons_succ, List.map_cons, mapErase f l k]
theorem mo_takeA {N : Nt} (ok : N.Ok) {k : Nat} {r : Arw} (h : N.ar[k]? = some r) : moF .popK (arD true N) [.int r.n] = some (.dct true ((N.ar.eraseIdx k).map Arw.k) ((N.ar.eraseIdx k).map Arw.d), r.d) := by
  show (some (Sum.inl r.n : Key)).bind (fun k => ((N.ar.map Arw.k).findIdx? fun j => decide (j = k)).bind fun i => if dupAt (N.ar.map Arw.k) i k = true then none else ((N.ar.map Arw.d)[i]?).map fun y => (D.dct true ((N.ar.map Arw.k).eraseIdx i) ((N.ar.map Arw.d).eraseIdx i), y)) = _
  simp only [Option.bind_some, ar_at ok.so h, dupAt_no ok.so h, List.getElem?_map, h]
  simp [mapErase]
theorem fnf15 (N : Nt) (ok : N.Ok) (k : Nat) (r : Arw) (h : N.ar[k]? = some r) : run_f15 [N.d true, .int r.n] = .ok .non [some ((N.takeA k).d true), some (.int r.n)] := by
  have e1 := mo_takeA ok h
  have e2 := Nt.s_a N (N.ar.eraseIdx k)
  have hm : ∃ q ∈ N.ar, q.n = r.n := ⟨r, List.mem_of_getElem? h, rfl⟩
  have ty : tyD .dict (arD true N) = true := id rfl
  simp [at_f15, b_f15, b_f15_0, ar_in, hm, e1, e2, ty]




def mx (a k : Int) : Int := ((a + 7919 * k + 1) * 48271 % 2147483647) * ((a + 7919 * k + 1) * 48271 % 2147483647 / 1009 + 69621) % 2147483647
theorem mx_b (a k : Int) : 0 ≤ mx a k ∧ mx a k < 2147483647 := by unfold mx; omega
theorem fnf22 (a k : Int) : run_f22 [.int a, .int k] = .ok (.int (mx a k)) [some (.int a), some (.int k)] := by
  have h1 : mulOk 7919 k = true := mulOk_l (by decide)
  have h2 : mulOk (a + 7919 * k + 1) 48271 = true := mulOk_r (by decide)
  have h3 : mulOk ((a + 7919 * k + 1) * 48271 % 2147483647) ((a + 7919 * k + 1) * 48271 % 2147483647 / 1009 + 69621) = true := mulOk_lt (by omega)
  have hd : divOk 1009 = true := by decide +kernel
  simp [at_f22, b_f22, h1, h2, h3, hd, mx]


/-! names that are alike but for a sign -/
theorem alphN_l : alphN.length = 26 := by decide +kernel
def ltrs (c : Int) : List Str := (List.range (c % 7).toNat).map fun (k : Nat) => chr alphN (mx c k % 26)
def stem (c : Int) : Str := Txt.join "" (ltrs c)
theorem ltrs_len (c : Int) : (ltrs c).length ≤ 6 := by
  unfold ltrs
  rw [List.length_map, List.length_range]
  omega
theorem chr_in (z : Str) (i : Int) (h0 : 0 ≤ i) (h1 : i < z.length) : ∀ c ∈ (chr z i).cps.toList, c ∈ z.cps.toList := by
  intro c h
  have hl : z.cps.toList.length = z.length := rfl
  have e : (chr z i).cps.toList = [z.cps.toList.getD i.toNat 0] := rfl
  rw [e, List.mem_singleton] at h
  rw [h, List.getD_eq_getElem?_getD, List.getElem?_eq_getElem (by rw [hl]; omega)]
  exact List.getElem_mem _
theorem app_cps (a b : Str) : (a ++ b).cps.toList = a.cps.toList ++ b.cps.toList := by
  show (a.cps ++ b.cps).toList = _
  rw [Array.toList_append]
theorem join_in {P : Nat → Prop} : ∀ (ys : List Str), (∀ y ∈ ys, ∀ c ∈ y.cps.toList, P c) → ∀ c ∈ (Str.join "" ys).cps.toList, P c
  | [], _, c, h => by cases h
  | [y], k, c, h => k y List.mem_cons_self c h
  | y :: z :: r, k, c, h => by
    have e : (Str.join "" (y :: z :: r)).cps.toList = y.cps.toList ++ (("" : Str).cps.toList ++ (Str.join "" (z :: r)).cps.toList) := by
      show (y ++ "" ++ Str.join "" (z :: r)).cps.toList = _
      rw [app_cps, app_cps, List.append_assoc]
    rw [e] at h
    rcases List.mem_append.mp h with h | h
    · exact k y List.mem_cons_self c h
    · rcases List.mem_append.mp h with h | h
      · cases h
      · exact join_in (z :: r) (fun w hw => k w (List.mem_cons_of_mem _ hw)) c h
theorem stem_in (c : Int) : ∀ x ∈ (stem c).cps.toList, x ∈ alphN.cps.toList := by
  unfold stem
  rw [TL.join_eq]
  refine join_in _ fun y hy => ?_
  obtain ⟨k, _, rfl⟩ := List.mem_map.mp hy
  exact chr_in _ _ (by omega) (by rw [alphN_l]; omega)
theorem empty_len : (Str.ofString "").length = 0 := by decide +kernel
theorem stem_len (c : Int) : (stem c).length ≤ 6 := by
  have h := len_join "" (ltrs c)
  have h1 : ((ltrs c).map (·.length)).sum ≤ ((ltrs c).map (·.length)).length * 1 := sum_le fun x hx => by
    obtain ⟨y, hy, rfl⟩ := List.mem_map.mp hx
    obtain ⟨k, _, rfl⟩ := List.mem_map.mp hy
    simp
  have h2 := ltrs_len c
  rw [List.length_map] at h1
  rw [empty_len] at h
  unfold stem
  omega
def stAt (c : Int) : Nat := (c / 7 % (((stem c).length : Int) + 1)).toNat
theorem stAt_le (c : Int) : stAt c ≤ (stem c).length := by
  unfold stAt
  have h0 := Int.emod_nonneg (c / 7) (b := ((stem c).length : Int) + 1) (by omega)
  have h1 := Int.emod_lt_of_pos (c / 7) (b := ((stem c).length : Int) + 1) (by omega)
  omega
def nine : Str := "bcdefghij"
theorem nine_l : nine.length = 9 := by decide +kernel
def nameAt (c : Int) (k : Nat) : Str := cutS (stem c) none (some (stAt c : Nat)) ++ chr nine k ++ cutS (stem c) (some (stAt c : Nat)) none
theorem cutS_l (z : Str) (lo hi : Option Int) : (cutS z lo hi).cps.toList = cutL z.cps.toList lo hi := rfl
theorem cut0 (c : Int) : (cutS (stem c) none (some (stAt c : Nat))).cps.toList = (stem c).cps.toList.take (stAt c) := by rw [cutS_l, cut01]
theorem cut1 (c : Int) : (cutS (stem c) (some (stAt c : Nat)) none).cps.toList = (stem c).cps.toList.drop (stAt c) := by rw [cutS_l, cut10]
theorem len_cps (z : Str) : z.length = z.cps.toList.length := rfl
theorem nameAt_cps (c : Int) (k : Nat) : (nameAt c k).cps.toList = (stem c).cps.toList.take (stAt c) ++ (chr nine k).cps.toList ++ (stem c).cps.toList.drop (stAt c) := by
  unfold nameAt
  rw [app_cps, app_cps, cut0, cut1]
theorem nine_in : ∀ x ∈ nine.cps.toList, x ∈ alphN.cps.toList := by decide +kernel
theorem nameAt_ok (c : Int) (k : Nat) (hk : k < 9) : NmOk (nameAt c k) where
  c x h := by
    rw [nameAt_cps] at h
    rcases List.mem_append.mp h with h | h
    · rcases List.mem_append.mp h with h | h
      · exact stem_in c x (List.mem_of_mem_take h)
      · exact nine_in x (chr_in nine k (by omega) (by rw [nine_l]; omega) x h)
    · exact stem_in c x (List.mem_of_mem_drop h)
  l := by
    have h := stem_len c
    have h2 := stAt_le c
    have e : (chr nine k).cps.toList.length = 1 := rfl
    rw [len_cps] at h h2
    rw [len_cps, nameAt_cps]
    simp only [List.length_append, List.length_take, List.length_drop, e]
    omega
theorem nine_inj : ∀ k < 9, ∀ j < 9, chr nine (k : Nat) = chr nine (j : Nat) → k = j := by decide +kernel
theorem Str.ext_l {a b : Str} (h : a.cps.toList = b.cps.toList) : a = b := by
  cases a; cases b
  congr
  exact Array.toList_inj.mp h
theorem nameAt_inj (c : Int) {k j : Nat} (hk : k < 9) (hj : j < 9) (e : nameAt c k = nameAt c j) : k = j := by
  have e2 := congrArg (fun z : Str => z.cps.toList) e
  simp only [nameAt_cps] at e2
  exact nine_inj k hk j hj (Str.ext_l (List.append_cancel_left (List.append_cancel_right e2)))
def nms (c : Int) : List Str := (List.range (1 + c / 49 % 9).toNat).map (nameAt c)
theorem nms_len (c : Int) : 1 ≤ (nms c).length ∧ (nms c).length ≤ 9 := by
  unfold nms
  rw [List.length_map, List.length_range]
  omega
theorem nms_ok (c : Int) : ∀ x ∈ nms c, NmOk x := fun x h => by
  obtain ⟨k, hk, rfl⟩ := List.mem_map.mp h
  have := List.mem_range.mp hk
  exact nameAt_ok c k (by omega)
theorem nodup_mapOn {α β : Type} {f : α → β} : ∀ {l : List α}, l.Nodup → (∀ a ∈ l, ∀ b ∈ l, f a = f b → a = b) → (l.map f).Nodup
  | [], _, _ => List.nodup_nil
  | a :: l, nd, h => by
    have nd' := List.nodup_cons.mp nd
    refine List.nodup_cons.mpr ⟨fun m => ?_, nodup_mapOn nd'.2 fun x hx y hy => h x (List.mem_cons_of_mem _ hx) y (List.mem_cons_of_mem _ hy)⟩
    obtain ⟨b, hb, e⟩ := List.mem_map.mp m
    have := h b (List.mem_cons_of_mem _ hb) a List.mem_cons_self e
    exact nd'.1 (this ▸ hb)
theorem nms_nd (c : Int) : (nms c).Nodup := nodup_mapOn List.nodup_range fun a ha b hb e => by
  have h1 := List.mem_range.mp ha
  have h2 := List.mem_range.mp hb
  exact nameAt_inj c (by omega) (by omega) e
theorem ix_alph (i : Int) (h : 0 ≤ i ∧ i < 26) : opF csub .ix [.str "abcdefghijklmnopqrstuvwxyz", .int i] = some (.str (chr alphN i)) := by
  have hl : (Str.ofString "abcdefghijklmnopqrstuvwxyz").length = 26 := alphN_l
  exact of_ixS csub "abcdefghijklmnopqrstuvwxyz" i h.1 (by rw [hl]; omega) (by rw [hl]; decide)
theorem ix_nine (k : Nat) (h : k < 9) : opF csub .ix [.str "bcdefghij", .int (k : Int)] = some (.str (chr nine k)) := by
  have hl : (Str.ofString "bcdefghij").length = 9 := nine_l
  exact of_ixS csub "bcdefghij" k (by omega) (by rw [hl]; omega) (by rw [hl]; decide)
theorem fnf23 (c : Int) : run_f23 [.int c] = .ok (.lst true ((nms c).map D.str)) [some (.int c)] := by
  have r7 : rngOk 0 (c % 7) = true := rngOk_of (by omega)
  have r9 : rngOk 0 (1 + c / 49 % 9) = true := rngOk_of (by omega)
  have l7 : (rng 0 1 (c % 7).toNat).length < lim := by rw [rng_len]; simp only [lim]; omega
  have l9 : (rng 0 1 (1 + c / 49 % 9).toNat).length < lim := by rw [rng_len]; simp only [lim]; omega
  have d7 : divOk 7 = true := by decide +kernel
  have d49 : divOk 49 = true := by decide +kernel
  have g1 : lcGo (lcTurn pg_f22 (.one 3) .tt c_f23_0 [some (.int c), none, none, none]) (rng 0 1 (c % 7).toNat) [] = .ok (.lst true ((ltrs c).map D.str)) := by
    unfold rng ltrs
    rw [lcGo_mapf (h := fun (k : Nat) => D.str (chr alphN (mx c k % 26))) _ _ fun k _ => ?_]
    · simp
    · have h1 := ix_alph (mx c k % 26) (by omega)
      simp [lcTurn, c_f23_0, fnf22, h1]
  have hj : opF csub .join [.str "", .lst true ((ltrs c).map D.str)] = some (.str (stem c)) := of_join csub "" true (ltrs c) (by
    have h1 : ((ltrs c).map (·.length)).sum ≤ ((ltrs c).map (·.length)).length * 1 := sum_le fun x hx => by
      obtain ⟨y, hy, rfl⟩ := List.mem_map.mp hx
      obtain ⟨k, _, rfl⟩ := List.mem_map.mp hy
      simp
    have h2 := ltrs_len c
    rw [List.length_map] at h1
    rw [empty_len]
    simp only [lim]
    omega)
  have sl := stem_len c
  have sl2 : (stem c).length < lim := by simp only [lim]; omega
  have sp : (0 : Int) < ((stem c).length : Int) + 1 := by omega
  have ea : c / 7 % (((stem c).length : Int) + 1) = (stAt c : Nat) := by
    unfold stAt
    have h0 := Int.emod_nonneg (c / 7) (b := ((stem c).length : Int) + 1) (by omega)
    omega
  have k0 : (cutS (stem c) none (some ((stAt c : Nat) : Int))).length ≤ 6 := by
    rw [len_cps, cut0, List.length_take, ← len_cps]; omega
  have k1 : (cutS (stem c) (some ((stAt c : Nat) : Int)) none).length ≤ 6 := by
    rw [len_cps, cut1, List.length_drop, ← len_cps]; omega
  have g2 : lcGo (lcTurn pg_f22 (.one 3) .tt c_f23_1 [some (.int c), some (.str (stem c)), some (.int (stAt c : Nat)), none]) (rng 0 1 (1 + c / 49 % 9).toNat) [] = .ok (.lst true ((nms c).map D.str)) := by
    unfold rng nms
    rw [lcGo_mapf (h := fun (k : Nat) => D.str (nameAt c k)) _ _ fun k hk => ?_]
    · simp
    · have hk' := List.mem_range.mp hk
      have h1 := ix_nine k (by omega)
      have m1 : (cutS (stem c) none (some ((stAt c : Nat) : Int))).length + 1 < lim := by simp only [lim]; omega
      have m2 : (cutS (stem c) none (some ((stAt c : Nat) : Int))).length + 1 + (cutS (stem c) (some ((stAt c : Nat) : Int)) none).length < lim := by simp only [lim]; omega
      simp [lcTurn, c_f23_1, h1, sl2, m1, m2, nameAt]
  have h : runS pg_f22 moF fuel b_f23 [some (.int c), none, none, none] = .ret (.lst true ((nms c).map D.str)) [some (.int c), some (.str (stem c)), some (.int (stAt c : Nat)), none] := by
    unfold b_f23
    refine seq_nx (by simp [r7, l7, g1, hj]; rfl) ?_
    refine seq_nx (by simp [sl2, sp, d7, ea]; rfl) ?_
    simp [d49, r9, l9, g2]
  rw [at_f23, h]
  simp



/-! calls of a net's methods; whole numbers in lists -/
theorem take_vals : ∀ (ds : List D) (α : Env), take (ds.map Itm.val) α = some (ds, α, ds.map fun _ => none)
  | [], α => by simp [take]
  | d :: ds, α => by simp [take, take_vals ds α]
theorem put_nones : ∀ (ds : List D) (fin : List (Option D)) (β : Env), put (ds.map fun _ => none) fin β = some β
  | [], fin, β => by simp [put]
  | d :: ds, fin, β => by simp [put, put_nones ds fin.tail β]
theorem io_meth {P : Pg} {mf : MOp → D → List D → Option (D × D)} {n i : Nat} {m f : Str} {dvs : List Cst} {as : List A} {ds : List D} {α : Env} {N N' : Nt} {r : D} {fin : List (Option D)} (hi : α[i]? = some (some (N.d true))) (h1 : netF.contains m = false) (h2 : P.mt (cid 8) m = some f) (ha : evAs P as α = .ok (ds.map Itm.val) α)
    (hc : P.cal f (N.d true :: (ds ++ dvs.map Cst.d)) = .ok r (some (N'.d true) :: fin)) : runS P mf n (.drop (.meth m dvs (.io i []) as)) α = .nx (α.set i (some (N'.d true))) := by
  have hl : i < α.length := (List.getElem?_eq_some_iff.mp hi).1
  have e1 : itD α (.io i []) = some (N.d true) := by simp only [itD, hi, getAt_nil]
  have e2 : take (Itm.io i [] :: ds.map Itm.val) α = some (N.d true :: ds, α.set i none, some (i, [], N.d true) :: ds.map fun _ => none) := by
    simp only [take, hi, getAt_nil, take_vals, Option.map_some]
  have e3 : callC P f dvs (.io i [] :: ds.map Itm.val) α = .ok r (α.set i (some (N'.d true))) := by
    unfold callC
    rw [e2]
    simp only [List.cons_append, hc, RF.back, put, List.length_set, hl, if_true, setAt_nil, put_nones, List.set_set]
  rw [rs_drop, ec_meth, ea_io, hi]
  simp only [ioA_some, path_nil, R1.at_ok, RE.bind_ok, e1]
  rw [metC_net h1 h2, ha]
  simp only [RE.bind_ok, e3, RE.on_ok]
theorem arrows_m {P : Pg} (N : Nt) (ok : N.Ok) (h2 : P.mt (cid 8) "arrows" = some (fid 18)) (h3 : P.cal (fid 18) = run_f18) : mtD P "arrows" [] (.ok []) (N.d false) = .ok (.lst true (N.ar.map Arw.d)) := by
  rw [mtD_net (by decide +kernel) h2]
  simp [h3, fnf18 N ok]
theorem NmOk.s {x : Str} (h : NmOk x) : sOk x = true := sOk_iff.mpr fun c m => by
  have k : ∀ c ∈ alphN.cps.toList, c < 1114112 := by decide +kernel
  exact k c (h.c c m)
theorem Nt.Ok.pl {N : Nt} (ok : N.Ok) (k : Nat) : D.plL (k + 1) (N.ar.map Arw.d) = true := plL_all fun d h => by
  obtain ⟨r, hr, rfl⟩ := List.mem_map.mp h
  have e := ok.en r hr
  simp [Arw.d, (ok.nm _ e.1).s, (ok.nm _ e.2.1).s]
theorem dok_ars (R : List Arw) (k : Nat) : D.dokL (k + 1) (R.map Arw.d) = true := dokL_all fun d h => by
  obtain ⟨r, hr, rfl⟩ := List.mem_map.mp h
  simp [Arw.d]
theorem ar_ne {N : Nt} (ok : N.Ok) : opF csub .ne [.lst true (N.ar.map Arw.d), .lst true []] = some (.bl (!decide (N.ar = []))) := by
  rw [of_neL csub true true _ _ (by rw [ok.pl 7]; rfl)]
  cases N.ar with
  | nil => rfl
  | cons r R => rfl
@[simp] theorem Arw.i0 (r : Arw) : opF csub .ix [r.d, .int 0] = some (.int r.n) := by simp [Arw.d, of_ixT, ixN]
@[simp] theorem Arw.i1 (r : Arw) : opF csub .ix [r.d, .int 1] = some (.str r.a) := by simp [Arw.d, of_ixT, ixN]
@[simp] theorem Arw.i2 (r : Arw) : opF csub .ix [r.d, .int 2] = some (.str r.b) := by simp [Arw.d, of_ixT, ixN]
@[simp] theorem Arw.fzd (r : Arw) : D.fz r.d = true := by simp [Arw.d]
@[simp] theorem Arw.frd (r : Arw) : D.freeze r.d = r.d := freeze_fz (Arw.fzd r)
/-! whole numbers in lists -/
theorem eqb_anyI (x : Int) (r : List Int) : ((r.map D.int).any fun y => D.eqb y (.int x)) = decide (x ∈ r) := by
  rw [Bool.eq_iff_iff]
  simp only [List.any_eq_true, List.mem_map, decide_eq_true_eq]
  constructor
  · rintro ⟨_, ⟨y, hy, rfl⟩, h⟩
    have : y = x := by simpa using h
    exact this ▸ hy
  · intro h
    exact ⟨_, ⟨x, h, rfl⟩, by simp⟩
theorem flat_ints (r : List Int) : (r.map D.int).all D.flat = true := by
  rw [List.all_eq_true]
  intro d hd
  obtain ⟨y, _, rfl⟩ := List.mem_map.mp hd
  rfl
theorem of_inI (m : Bool) (x : Int) (r : List Int) : opF csub .in_ [.int x, .lst m (r.map D.int)] = some (.bl (decide (x ∈ r))) := by
  show (if (true && (r.map D.int).all D.flat) = true then some (D.bl (((r.map D.int).any fun y => D.eqb y (.int x)) != false)) else _) = _
  rw [flat_ints, eqb_anyI]
  simp
theorem of_notinI (m : Bool) (x : Int) (r : List Int) : opF csub .notin [.int x, .lst m (r.map D.int)] = some (.bl (!decide (x ∈ r))) := by
  show (if (true && (r.map D.int).all D.flat) = true then some (D.bl (((r.map D.int).any fun y => D.eqb y (.int x)) != true)) else _) = _
  rw [flat_ints, eqb_anyI]
  simp
theorem dok_ints (l : List Int) (k : Nat) : D.dokL k (l.map D.int) = true := dokL_all fun d h => by
  obtain ⟨_, _, rfl⟩ := List.mem_map.mp h
  simp
theorem pl_ints (l : List Int) (k : Nat) : D.plL k (l.map D.int) = true := plL_all fun d h => by
  obtain ⟨_, _, rfl⟩ := List.mem_map.mp h
  simp
theorem ne_nilI (m k : Bool) (l : List Int) : opF csub .ne [.lst m (l.map D.int), .lst k []] = some (.bl (!decide (l = []))) := by
  rw [of_neL csub m k _ _ (by rw [pl_ints]; rfl)]
  cases l with
  | nil => rfl
  | cons r R => rfl



/-! the road, and the arrows kept and turned -/
def wD (b : Bool) (l : List Arw) : D := .lst b (l.map fun r => D.int r.n)
theorem wD_fr (b : Bool) (l : List Arw) : D.freeze (wD b l) = wD false l := by
  have e : D.freezeL (l.map fun r => D.int r.n) = l.map fun r => D.int r.n := freezeL_fz (fzL_all fun d h => by
    obtain ⟨_, _, rfl⟩ := List.mem_map.mp h
    rfl)
  simp [wD, e]
theorem wD_fz (l : List Arw) : D.fz (wD false l) = true := by
  rw [← wD_fr true l]
  exact fz_freeze _
theorem wsL_fr (V : List (List Arw)) : D.freezeL (V.map (wD true)) = V.map (wD false) := by
  rw [frL_map, List.map_map]
  exact List.map_congr_left fun l _ => wD_fr true l
theorem wsL_fz (V : List (List Arw)) : D.fzL (V.map (wD false)) = true := fzL_all fun d h => by
  obtain ⟨l, _, rfl⟩ := List.mem_map.mp h
  exact wD_fz l
theorem strL_fz (K : List Str) : D.fzL (K.map D.str) = true := fzL_all fun d h => by
  obtain ⟨_, _, rfl⟩ := List.mem_map.mp h
  rfl
theorem strL_fr (K : List Str) : D.freezeL (K.map D.str) = K.map D.str := freezeL_fz (strL_fz K)
theorem fldAt_at : ∀ {ks : List Str} {l : List D} {i : Nat} {k : Str}, ks.Nodup → ks[i]? = some k → fldAt k ks l = l[i]?
  | [], _, _, _, _, h => by simp at h
  | g :: ks, [], i, k, _, _ => by simp [fldAt]
  | g :: ks, x :: l, 0, k, _, h => by
    cases h
    simp
  | g :: ks, x :: l, i + 1, k, nd, h => by
    have nd' := List.nodup_cons.mp nd
    have ne : ¬ g = k := fun e => nd'.1 (by rw [e]; exact List.mem_of_getElem? (by simpa using h))
    rw [fldAt_cons, if_neg ne, fldAt_at nd'.2 (by simpa using h)]
    rfl
theorem fldAt_no : ∀ {ks : List Str} {l : List D} {k : Str}, k ∉ ks → fldAt k ks l = none
  | [], l, _, _ => by cases l <;> simp [fldAt]
  | g :: ks, [], _, _ => by simp [fldAt]
  | g :: ks, x :: l, k, h => by
    rw [fldAt_cons, if_neg (fun e => h (by rw [e]; exact List.mem_cons_self)), fldAt_no fun m => h (List.mem_cons_of_mem _ m)]
abbrev arsD (R : List Arw) : D := .lst false (R.map Arw.d)
abbrev wysD (b : Bool) (K : List Str) (V : List (List Arw)) : D := .dct b (kS K) (V.map (wD b))
abbrev Erd (R : List Arw) (x y : Str) (K : List Str) (V : List (List Arw)) (q : List Str) (a5 a6 a7 a8 a9 a10 : Option D) : Env :=
  [some (arsD R), some (.str x), some (.str y), some (wysD true K V), some (.lst true (q.map D.str)), a5, a6, a7, a8, a9, a10]
theorem wys_ix {R : List Arw} {x : Str} {i : Nat} {K : List Str} {V : List (List Arw)} {h : Str} {l : List Arw} (m : Met R x i K V) (hk : K[i]? = some h) (hv : V[i]? = some l) : opF csub .ix [wysD false K V, .str h] = some (wD false l) := by
  rw [of_ixDS, fldAt_at m.nd hk, List.getElem?_map, hv]
  rfl
theorem wys_put {R : List Arw} {x : Str} {i : Nat} {K : List Str} {V : List (List Arw)} (m : Met R x i K V) (hl : R.length ≤ 40) {g : Str} (hn : g ∉ K) (l : List Arw) : moF .setI (wysD true K V) [.str g, wD true l] = some (wysD true (K ++ [g]) (V ++ [l]), .non) := by
  have h := m.len
  have e := mo_setDS m.nd (l := V.map (wD true)) (by simp [m.hl]) (by simp only [lim]; omega) g (wD true l)
  rw [putK_new hn, putV_new hn (by simp [m.hl])] at e
  rw [e]
  simp
theorem way_len {R : List Arw} {x : Str} {i : Nat} {K : List Str} {V : List (List Arw)} (m : Met R x i K V) {k : Nat} {l : List Arw} (hv : V[k]? = some l) : l.length ≤ R.length := by
  have hk : k < K.length := by rw [m.hl]; exact (List.getElem?_eq_some_iff.mp hv).1
  obtain ⟨_, w2, w3⟩ := m.way k _ l (List.getElem?_eq_getElem hk) hv
  have h := nodup_le (m := K) w2 fun z hz => by
    rcases List.mem_cons.mp hz with e | e
    · rw [e]; exact m.mem
    · obtain ⟨r, hr, e2⟩ := List.mem_map.mp e
      rw [← e2]; exact w3 r hr
  have := m.len
  simp at h
  omega
theorem stf3 (R : List Arw) (hl : R.length ≤ 40) (x y : Str) (i : Nat) (K : List Str) (V : List (List Arw)) (m : Met R x i K V) (h : Str) (hk : K[i]? = some h) (r : Arw) (hr : r ∈ R) (a6 a7 a8 a9 a10 : Option D) :
    ∃ (K' : List Str) (V' : List (List Arw)), Met R x i K' V' ∧ K'[i]? = some h ∧ (∀ z ∈ K, z ∈ K') ∧ (r.a = h → r.b ∈ K') ∧ forD pg0 moF fuel (.tup [(.one 6), (.one 7), (.one 8), (.one 9), (.one 10)]) b_f3_1 r.d (Erd R x y K V (K.drop (i + 1)) (some (.str h)) a6 a7 a8 a9 a10)
      = .nx (Erd R x y K' V' (K'.drop (i + 1)) (some (.str h)) (some (.int r.n)) (some (.str r.a)) (some (.str r.b)) (some (.int r.s)) (some (.int r.w))) := by
  have hi : i < K.length := (List.getElem?_eq_some_iff.mp hk).1
  have rz := arL_fz R
  have rf := arL_fr R
  have wf := wsL_fr V
  have wz := wsL_fz V
  by_cases ha : r.a = h
  · by_cases hb : r.b ∈ K
    · refine ⟨K, V, m, hk, fun _ z => z, fun _ => hb, ?_⟩
      have ni := of_notinDS csub false K (V.map (wD false)) r.b
      unfold forD
      simp [b_f3_1, b_f3_0, Arw.d, ha, hb, ni, wf, wz]
    · obtain ⟨l, hv⟩ : ∃ l, V[i]? = some l := ⟨_, List.getElem?_eq_getElem (by rw [← m.hl]; exact hi)⟩
      refine ⟨K ++ [r.b], V ++ [l ++ [r]], m.put hk hv hr ha hb, by rw [List.getElem?_append_left hi]; exact hk, fun z hz => List.mem_append_left _ hz, fun _ => List.mem_append_right _ (List.mem_singleton.mpr rfl), ?_⟩
      have ni := of_notinDS csub false K (V.map (wD false)) r.b
      have ix := wys_ix m hk hv
      have put := wys_put m hl hb (l ++ [r])
      have ll := way_len m hv
      have l1 : l.length + 1 < lim := by simp only [lim]; omega
      have kl := m.len
      have l2 : K.length - (i + 1) < lim := by simp only [lim]; omega
      have ewd : D.lst true ((l.map fun r => D.int r.n) ++ [.int r.n]) = wD true (l ++ [r]) := by simp [wD]
      have dr : (K ++ [r.b]).drop (i + 1) = K.drop (i + 1) ++ [r.b] := by rw [List.drop_append_of_le_length (by omega)]
      have c1 : ∀ z : D, evC pg0 (.e (.brw 3 (.prim .add (.cons (.prim .ix (.cons (.v 3) (.cons (.v 5) .nil))) (.cons (.lst (.cons (.v 6) .nil)) .nil))))) (Erd R x y K V (K.drop (i + 1)) (some (.str h)) (some (.int r.n)) (some (.str r.a)) (some (.str r.b)) (some (.int r.s)) (some (.int r.w)))
          = .ok (wD true (l ++ [r])) (Erd R x y K V (K.drop (i + 1)) (some (.str h)) (some (.int r.n)) (some (.str r.a)) (some (.str r.b)) (some (.int r.s)) (some (.int r.w))) := fun _ => by
        have cz : D.cleanL ((l.map fun r => D.int r.n) ++ [D.int r.n]) = true := clL_all fun d hd => by
          rcases List.mem_append.mp hd with h | h
          · obtain ⟨_, _, rfl⟩ := List.mem_map.mp h
            rfl
          · rw [List.mem_singleton.mp h]; rfl
        have wdl : wD false l = .lst false (l.map fun r => D.int r.n) := rfl
        rw [wdl] at ix
        simp [wf, wz, ix, l1, cz, ← ewd]
      unfold forD
      have st1 : runS pg0 moF fuel (.setI 3 [] (.v 8) (.e (.brw 3 (.prim .add (.cons (.prim .ix (.cons (.v 3) (.cons (.v 5) .nil))) (.cons (.lst (.cons (.v 6) .nil)) .nil)))))) (Erd R x y K V (K.drop (i + 1)) (some (.str h)) (some (.int r.n)) (some (.str r.a)) (some (.str r.b)) (some (.int r.s)) (some (.int r.w)))
          = .nx (Erd R x y (K ++ [r.b]) (V ++ [l ++ [r]]) (K.drop (i + 1)) (some (.str h)) (some (.int r.n)) (some (.str r.a)) (some (.str r.b)) (some (.int r.s)) (some (.int r.w))) := by
        rw [rs_setI, c1 .non]
        simp [put, -List.map_append]
      have go : runS pg0 moF fuel b_f3_1 (Erd R x y K V (K.drop (i + 1)) (some (.str h)) (some (.int r.n)) (some (.str r.a)) (some (.str r.b)) (some (.int r.s)) (some (.int r.w))) = .nx (Erd R x y (K ++ [r.b]) (V ++ [l ++ [r]]) ((K ++ [r.b]).drop (i + 1)) (some (.str h)) (some (.int r.n)) (some (.str r.a)) (some (.str r.b)) (some (.int r.s)) (some (.int r.w))) := by
        unfold b_f3_1 b_f3_0
        refine ife_t (β := Erd R x y K V (K.drop (i + 1)) (some (.str h)) (some (.int r.n)) (some (.str r.a)) (some (.str r.b)) (some (.int r.s)) (some (.int r.w))) (by simp [ha, hb, ni, wf, wz]) ?_
        refine seq_nx st1 ?_
        rw [dr]
        simp [l2]
      have ea : asgP (.tup [(.one 6), (.one 7), (.one 8), (.one 9), (.one 10)]) r.d (Erd R x y K V (K.drop (i + 1)) (some (.str h)) a6 a7 a8 a9 a10) = some (Erd R x y K V (K.drop (i + 1)) (some (.str h)) (some (.int r.n)) (some (.str r.a)) (some (.str r.b)) (some (.int r.s)) (some (.int r.w))) := by simp [Arw.d]
      rw [ea]
      exact go
  · refine ⟨K, V, m, hk, fun _ z => z, fun e => absurd e ha, ?_⟩
    have ne : (r.a == h) = false := by simpa using ha
    unfold forD
    simp [b_f3_1, b_f3_0, Arw.d, ne, wf, wz]
/-- a road, or none -/
inductive RoadOf (R : List Arw) (x y : Str) : D → Prop
  | no : ¬ Reach R x y → RoadOf R x y .non
  | way (b : Bool) (l : List Arw) : Way R x y l → (x :: l.map (·.b)).Nodup → RoadOf R x y (wD b l)
theorem popHead {P : Pg} {n : Nat} {x0 x1 x2 x3 a5 : Option D} {tl : List (Option D)} (h : Str) (q : List Str) : runS P moF n (.mut (some (.one 5)) .list 4 [] .popAt [(.e (.c (.int 0)))]) (x0 :: x1 :: x2 :: x3 :: some (.lst true ((h :: q).map D.str)) :: a5 :: tl) = .nx (x0 :: x1 :: x2 :: x3 :: some (.lst true (q.map D.str)) :: some (.str h) :: tl) := by
  have pp := mo_popAtN ((h :: q).map D.str) 0 (y := .str h) (by simp) (by decide)
  have key : ∀ mf : MOp → D → List D → Option (D × D), mf .popAt (.lst true ((h :: q).map D.str)) [.int ((0 : Nat) : Int)] = some (.lst true (((h :: q).map D.str).eraseIdx 0), .str h) → runS P mf n (.mut (some (.one 5)) .list 4 [] .popAt [(.e (.c (.int 0)))]) (x0 :: x1 :: x2 :: x3 :: some (.lst true ((h :: q).map D.str)) :: a5 :: tl) = .nx (x0 :: x1 :: x2 :: x3 :: some (.lst true (q.map D.str)) :: some (.str h) :: tl) := fun mf pp => by
    have pp' : mf .popAt (.lst true (.str h :: q.map D.str)) [.int 0] = some (.lst true (q.map D.str), .str h) := pp
    simp [pp']
  exact key moF pp
theorem fnf3 (R : List Arw) (hl : R.length ≤ 40) (so : ∀ r ∈ R, sOk r.b = true) (x y : Str) (sx : sOk x = true) : ∃ d, RoadOf R x y d ∧ run_f3 [arsD R, .str x, .str y] = .ok d [some (arsD R), some (.str x), some (.str y)] := by
  have rz := arL_fz R
  have rf := arL_fr R
  by_cases e : x = y
  · subst e
    refine ⟨_, .way true [] .nil (by simp), ?_⟩
    simp [at_f3, b_f3, wD]
  · have ne : (x == y) = false := by simpa using e
    have lp := whGo_inv (t := evT pg0 (.b (.e (.brw 4 (.prim .ne (.cons (.v 4) (.cons (.lst .nil) .nil))))))) (f := runS pg0 moF fuel b_f3_2)
      (fun m α => ∃ (i : Nat) (K : List Str) (V : List (List Arw)) (a5 a6 a7 a8 a9 a10 : Option D), m + i = R.length + 2 ∧ i ≤ K.length ∧ Met R x i K V ∧ α = Erd R x y K V (K.drop i) a5 a6 a7 a8 a9 a10)
      (fun o => ∃ (i : Nat) (K : List Str) (V : List (List Arw)) (a5 a6 a7 a8 a9 a10 : Option D), K.length ≤ i ∧ Met R x i K V ∧ o = .nx (Erd R x y K V [] a5 a6 a7 a8 a9 a10)) fuel (R.length + 2) (Nat.lt_of_le_of_lt (m := 1000) (by omega) (by decide))
      (α := Erd R x y [x] [[]] [x] none none none none none none) ⟨0, [x], [[]], none, none, none, none, none, none, rfl, by simp, Met.start R x, rfl⟩ (fun m α I => by
        obtain ⟨i, K, V, a5, a6, a7, a8, a9, a10, hm, hi, M, rfl⟩ := I
        by_cases hq : i < K.length
        · obtain ⟨h, hk⟩ : ∃ h, K[i]? = some h := ⟨_, List.getElem?_eq_getElem hq⟩
          have hd : K.drop i = h :: K.drop (i + 1) := by
            rw [List.drop_eq_getElem_cons hq]
            congr 1
            rw [List.getElem?_eq_getElem hq] at hk
            exact Option.some.inj hk
          refine ⟨true, Erd R x y K V (K.drop i) a5 a6 a7 a8 a9 a10, ?_, ?_⟩
          · have sz := strL_fr (K.drop i)
            have spl : D.plL 8 ((h :: K.drop (i + 1)).map D.str) = true := plL_all fun d hd2 => by
              obtain ⟨z, hz, rfl⟩ := List.mem_map.mp hd2
              rw [← hd] at hz
              rw [pl_str]
              rcases M.sub z (List.mem_of_mem_drop hz) with e | ⟨r, hr, e⟩
              · rw [e]; exact sx
              · rw [← e]; exact so r hr
            have se : opF csub .ne [.lst false ((h :: K.drop (i + 1)).map D.str), .lst true []] = some (.bl true) := by
              rw [of_neL csub false true _ _ (by rw [spl]; rfl)]
              rfl
            have szz := strL_fz (h :: K.drop (i + 1))
            have szf := strL_fr (h :: K.drop (i + 1))
            rw [hd]
            simp [szz, szf, se, -List.map_cons]
          · rw [if_pos rfl]
            left
            obtain ⟨α', ⟨K', V', b6, b7, b8, b9, b10, M', hk', hsub, hcl, rfl⟩, e2⟩ := forGo_foldW (f := forD pg0 moF fuel (.tup [(.one 6), (.one 7), (.one 8), (.one 9), (.one 10)]) b_f3_1) (e := Arw.d)
              (fun done α => ∃ (K' : List Str) (V' : List (List Arw)) (b6 b7 b8 b9 b10 : Option D), Met R x i K' V' ∧ K'[i]? = some h ∧ (∀ z ∈ K, z ∈ K') ∧ (∀ r ∈ done, r.a = h → r.b ∈ K') ∧ α = Erd R x y K' V' (K'.drop (i + 1)) (some (.str h)) b6 b7 b8 b9 b10) R (fun done r rest α hw I => by
                obtain ⟨K', V', b6, b7, b8, b9, b10, M', hk', hsub, hcl, rfl⟩ := I
                obtain ⟨K2, V2, M2, hk2, hs2, hb2, e2⟩ := stf3 R hl x y i K' V' M' h hk' r (by rw [hw]; simp) b6 b7 b8 b9 b10
                exact ⟨_, .inl e2, K2, V2, _, _, _, _, _, M2, hk2, fun z hz => hs2 z (hsub z hz), fun q hq ha => by
                  rcases List.mem_append.mp hq with hq | hq
                  · exact hs2 _ (hcl q hq ha)
                  · rw [List.mem_singleton.mp hq] at ha ⊢
                    exact hb2 ha, rfl⟩) (α := Erd R x y K V (K.drop (i + 1)) (some (.str h)) a6 a7 a8 a9 a10) ⟨K, V, a6, a7, a8, a9, a10, M, hk, fun _ z => z, (fun q hq => by cases hq), rfl⟩
            have hi' : i < K'.length := (List.getElem?_eq_some_iff.mp hk').1
            have M3 := M'.next hk' hcl
            have kl := M3.len
            refine ⟨_, m - 1, .inl ?_, by omega, i + 1, K', V', some (.str h), b6, b7, b8, b9, b10, by omega, by omega, M3, rfl⟩
            unfold b_f3_2
            rw [hd]
            refine seq_nx (popHead h (K.drop (i + 1))) ?_
            simp [rz, rf, e2, -List.map_drop]
        · have hq' : K.length ≤ i := by omega
          have hd : K.drop i = [] := List.drop_eq_nil_of_le hq'
          refine ⟨false, Erd R x y K V [] a5 a6 a7 a8 a9 a10, ?_, ?_⟩
          · have se : opF csub .ne [.lst false [], .lst true []] = some (.bl false) := id rfl
            rw [hd]
            simp [se]
          · rw [if_neg (by decide)]
            exact ⟨i, K, V, a5, a6, a7, a8, a9, a10, hq', M, rfl⟩)
    obtain ⟨i, K, V, a5, a6, a7, a8, a9, a10, hi, M, lp⟩ := lp
    have wf := wsL_fr V
    have wz := wsL_fz V
    obtain ⟨d, hd, he⟩ : ∃ d, RoadOf R x y d ∧ opF csub .get1 [wysD false K V, .str y] = some d := by
      have g : opF csub .get1 [wysD false K V, .str y] = (some (Sum.inr y : Key)).bind fun k => match (kS K).findIdx? fun j => decide (j = k) with
        | some i => (V.map (wD false))[i]?
        | none => some .non := id rfl
      rw [g]
      simp only [Option.bind_some]
      rw [fidx_key]
      cases hf : K.findIdx? (fun j => decide (j = y)) with
      | none =>
        refine ⟨.non, .no fun hr => ?_, rfl⟩
        have := List.findIdx?_eq_none_iff.mp hf y ((M.done hi).mp hr)
        simp at this
      | some k =>
        obtain ⟨hk, e1, _⟩ := List.findIdx?_eq_some_iff_getElem.mp hf
        have e1' : K[k] = y := by simpa using e1
        have hv : k < V.length := by rw [← M.hl]; exact hk
        obtain ⟨w1, w2, _⟩ := M.way k y V[k] (by rw [List.getElem?_eq_getElem hk, e1']) (List.getElem?_eq_getElem hv)
        refine ⟨wD false V[k], .way false _ w1 w2, ?_⟩
        simp only [List.getElem?_map, List.getElem?_eq_getElem hv]
        rfl
    have dk : opF csub .dkv [.str x, .lst true []] = some (wysD true [x] [[]]) := of_dkv1 csub rfl
    refine ⟨d, hd, ?_⟩
    have h : runS pg0 moF fuel b_f3 [some (arsD R), some (.str x), some (.str y), none, none, none, none, none, none, none, none] = .ret d [some (arsD R), some (.str x), some (.str y), some (wysD false K V), some (.lst true []), a5, a6, a7, a8, a9, a10] := by
      unfold b_f3
      refine seq_nx (β := [some (arsD R), some (.str x), some (.str y), none, none, none, none, none, none, none, none]) (by simp [ne]) ?_
      refine seq_nx (β := [some (arsD R), some (.str x), some (.str y), some (wysD true [x] [[]]), none, none, none, none, none, none, none]) (by simp [dk]) ?_
      refine seq_nx (β := Erd R x y [x] [[]] [x] none none none none none none) (by simp) ?_
      refine seq_nx (β := Erd R x y K V [] a5 a6 a7 a8 a9 a10) (by rw [rs_whl]; exact lp) ?_
      simp [wf, wz, he]
    rw [at_f3, h]
    simp [rz]



/-! the arrows kept, the arrows turned -/
theorem fnf4 (N : Nt) (ok : N.Ok) : run_f4 [N.d false] = .ok (.tup [.lst true ((kept N.ar).map Arw.d), .lst true ((abt N.ar).map Arw.d)]) [some (N.d false)] := by
  have am := arrows_m (P := pg_f18) N ok (by simp) (by simp)
  have ll := ok.l40
  have fr := arL_fr N.ar
  obtain ⟨α', ⟨a3, rfl⟩, e⟩ := forGo_foldW (f := forD pg_f18 moF fuel (.one 3) b_f4_1) (e := Arw.d)
    (fun done α => ∃ a3 : Option D, α = [some (N.d false), some (.lst true ((kept done).map Arw.d)), some (.lst true ((abt done).map Arw.d)), a3]) N.ar (fun done r rest α hw I => by
      obtain ⟨a3, rfl⟩ := I
      have dl : done.length < 40 := by
        have := congrArg List.length hw
        simp at this
        omega
      have kl := (kept_sub done).length_le
      have al := (abt_sub done).length_le
      have kz := arL_fz (kept done)
      have kf := arL_fr (kept done)
      have l1 : (kept done).length < lim := by simp only [lim]; omega
      have l2 : (abt done).length < lim := by simp only [lim]; omega
      obtain ⟨d, hd, e⟩ := fnf3 (kept done) (by omega) (fun q hq => (ok.nm _ (ok.en q (by rw [hw]; exact List.mem_append_left _ ((kept_sub done).subset hq))).2.1).s) r.b r.a (ok.nm _ (ok.en r (by rw [hw]; simp)).2.1).s
      cases hd with
      | no h =>
        refine ⟨_, .inl ?_, some r.d, rfl⟩
        have ek : kept (done ++ [r]) = kept done ++ [r] := by show (spl (done ++ [r])).1 = _; rw [spl_k h]
        have ea : abt (done ++ [r]) = abt done := by show (spl (done ++ [r])).2 = _; rw [spl_k h]
        rw [ek, ea]
        unfold forD
        simp [b_f4_1, b_f4_0, kz, kf, e, l1]
      | way b l w nd =>
        refine ⟨_, .inl ?_, some r.d, rfl⟩
        have h : Reach (kept done) r.b r.a := ⟨l, w⟩
        have ek : kept (done ++ [r]) = kept done := by show (spl (done ++ [r])).1 = _; rw [spl_t h]
        have ea : abt (done ++ [r]) = abt done ++ [r] := by show (spl (done ++ [r])).2 = _; rw [spl_t h]
        rw [ek, ea]
        unfold wD at e
        unfold forD
        simp [b_f4_1, b_f4_0, kz, kf, e, l2]) (α := [some (N.d false), some (.lst true []), some (.lst true []), none]) ⟨none, by simp [kept, abt, spl]⟩
  have h : runS pg_f18 moF fuel b_f4 [some (N.d false), none, none, none] = .ret (.tup [.lst true ((kept N.ar).map Arw.d), .lst true ((abt N.ar).map Arw.d)]) [some (N.d false), none, none, a3] := by
    unfold b_f4
    refine seq_nx (β := [some (N.d false), some (.lst true []), none, none]) (by simp) ?_
    refine seq_nx (β := [some (N.d false), some (.lst true []), some (.lst true []), none]) (by simp) ?_
    refine seq_nx (β := [some (N.d false), some (.lst true ((kept N.ar).map Arw.d)), some (.lst true ((abt N.ar).map Arw.d)), a3]) (by simp [am, fr, e]) ?_
    simp
  rw [at_f4, h]
  simp



theorem fnf5 (N : Nt) (ok : N.Ok) : run_f5 [N.d false] = .ok (.lst true (((abt N.ar).map (·.n)).map D.int)) [some (N.d false)] := by
  have e := fnf4 N ok
  have al := (abt_sub N.ar).length_le
  have ll := ok.l40
  have az := arL_fz (abt N.ar)
  have kz := arL_fz (kept N.ar)
  have l2 : (abt N.ar).length < lim := by simp only [lim]; omega
  have ix : opF csub .ix [.tup [.lst true ((kept N.ar).map Arw.d), .lst true ((abt N.ar).map Arw.d)], .int 1] = some (.lst true ((abt N.ar).map Arw.d)) := by simp [of_ixT, ixN]
  have g : lcGo (lcTurn pg_f4 (.one 1) .tt c_f5_0 [some (N.d false), none]) ((abt N.ar).map Arw.d) [] = .ok (.lst true (((abt N.ar).map (·.n)).map D.int)) := by
    rw [lcGo_mapf (e := Arw.d) (h := fun r : Arw => D.int r.n) _ [] fun r hr => ?_]
    · simp
    · simp [lcTurn, c_f5_0]
  have af := arL_fr (abt N.ar)
  simp [at_f5, b_f5, e, ix, l2, g, af, -List.map_map]



/-! the nets that the laws draw -/
theorem pickN {r : List Str} (h : 0 < r.length) (q : Int) : ∃ k : Nat, k < r.length ∧ q % (r.length : Int) = (k : Nat) := by
  have h0 := Int.emod_nonneg q (b := (r.length : Int)) (by omega)
  have h1 := Int.emod_lt_of_pos q (b := (r.length : Int)) (by omega)
  exact ⟨(q % (r.length : Int)).toNat, by omega, by omega⟩
theorem ix_str (m : Bool) (r : List Str) {k : Nat} (h : k < r.length) : opF csub .ix [.lst m (r.map D.str), .int (k : Nat)] = some (.str r[k]) := by
  rw [of_ixG csub m _ (by omega) (by simpa using h), List.getElem?_map]
  simp [h]
abbrev End (ns : List Int) (names : List Str) (N : Nt) (a3 a4 a5 a6 : Option D) : Env := [some (.lst false (ns.map D.int)), some (.lst false (names.map D.str)), some (N.d true), a3, a4, a5, a6]
theorem ptf24 (cs : List Int) (names : List Str) (N : Nt) (ok : N.Ok) (x : Str) (hx : NmOk x) (hn : x ∉ N.ns) (hl : N.ns.length < 20) (a3 a4 a5 a6 : Option D) : forD pg_f23 moF fuel (.one 3) b_f24_0 (.str x) (End cs names N a3 a4 a5 a6) = .nx (End cs names (N.putP x 0) (some (.str x)) a4 a5 a6) := by
  unfold forD
  have ea : asgP (.one 3) (.str x) (End cs names N a3 a4 a5 a6) = some (End cs names N (some (.str x)) a4 a5 a6) := by simp
  rw [ea]
  unfold b_f24_0
  have hc := fnf11 N ok x 0 hx hn (by omega) hl
  exact io_meth (f := fid 11) (ds := [.str x]) (N := N) (N' := N.putP x 0) (i := 2) (r := .non) (fin := [some (.str x), some (.int 0)]) rfl (by decide +kernel) (by simp) (by simp) (by simp [hc])
theorem arf24 (cs : List Int) (names : List Str) (N : Nt) (ok : N.Ok) (hN : N.ns = names) (hl : N.ar.length < 40) (c : Int) (a3 a5 a6 : Option D) :
    ∃ (N' : Nt) (b5 b6 : Option D), N'.Ok ∧ N'.ns = names ∧ N'.ar.length ≤ N.ar.length + 1 ∧ runS pg_f23 moF fuel b_f24_1 (End cs names N a3 (some (.int c)) a5 a6) = .nx (End cs names N' a3 (some (.int c)) b5 b6) := by
  have nz := strL_fz names
  by_cases h1 : 1 < names.length
  · have h1' : (1 : Int) < (names.length : Int) := by omega
    have hp : (0 : Int) < (names.length : Int) := by omega
    have hpN : 0 < names.length := by omega
    have hp2 : (0 : Int) < (names.length : Int) - 1 := by omega
    obtain ⟨k, hk, ek⟩ := pickN (r := names) (by omega) (mx c 1)
    obtain ⟨j, hj, ej⟩ := pickN (r := names) (by omega) ((k : Int) + 1 + mx c 2 % ((names.length : Int) - 1))
    have ne : k ≠ j := by
      intro e
      subst e
      have q0 := Int.emod_nonneg (mx c 2) (b := (names.length : Int) - 1) (by omega)
      have q1 := Int.emod_lt_of_pos (mx c 2) (b := (names.length : Int) - 1) (by omega)
      generalize mx c 2 % ((names.length : Int) - 1) = q at *
      have d0 := Int.mul_ediv_add_emod ((k : Int) + 1 + q) (names.length : Int)
      rw [ej] at d0
      generalize ((k : Int) + 1 + q) / (names.length : Int) = t at d0
      have : (names.length : Int) * t = 1 + q := by omega
      have t1 : 0 < t := by
        rcases Int.lt_or_le 0 t with h | h
        · exact h
        · have := Int.mul_nonpos_of_nonneg_of_nonpos (a := (names.length : Int)) (by omega) h
          omega
      have : (names.length : Int) * 1 ≤ (names.length : Int) * t := Int.mul_le_mul_of_nonneg_left (by omega) (by omega)
      omega
    have i1 := ix_str false names hk
    have i2 := ix_str false names hj
    have nej : names[k] ≠ names[j] := by
      intro e
      have nd := hN ▸ ok.nd
      exact ne ((List.getElem_inj nd).mp e)
    have p6 : powOk 10 6 = true := by decide +kernel
    have ok' := ok.putA (x := names[k]) (y := names[j]) (s := 1 + mx c 3 % 20) (w := 1 + c % 1000000) (by rw [hN]; exact List.getElem_mem _) (by rw [hN]; exact List.getElem_mem _) nej (by omega) (by omega) hl
    refine ⟨N.putA names[k] names[j] (1 + mx c 3 % 20) (1 + c % 1000000), some (.int (k : Nat)), some (.int (j : Nat)), ok', hN, by simp, ?_⟩
    unfold b_f24_1
    refine ife_t (β := End cs names N a3 (some (.int c)) a5 a6) (by simp [nz, h1, h1']) ?_
    refine seq_nx (β := End cs names N a3 (some (.int c)) (some (.int (k : Nat))) a6) (by simp [nz, fnf22, hp, hpN, ek]) ?_
    refine seq_nx (β := End cs names N a3 (some (.int c)) (some (.int (k : Nat))) (some (.int (j : Nat)))) (by simp [nz, fnf22, hp, hpN, hp2, h1, h1', ej]) ?_
    have hc := fnf12 N ok names[k] names[j] (1 + mx c 3 % 20) (1 + c % 1000000) (by rw [hN]; exact List.getElem_mem _) (by rw [hN]; exact List.getElem_mem _) nej (by omega) (by omega) hl
    refine io_meth (f := fid 12) (r := .int N.gv) (fin := [some (.str names[k]), some (.str names[j]), some (.int (1 + mx c 3 % 20)), some (.int (1 + c % 1000000))]) (ds := [.str names[k], .str names[j], .int (1 + mx c 3 % 20), .int (1 + c % 1000000)]) (N := N) (N' := N.putA names[k] names[j] (1 + mx c 3 % 20) (1 + c % 1000000)) (i := 2) rfl (by decide +kernel) (by simp) ?_ ?_
    · simp [nz, i1, i2, fnf22, p6]
    · simp [hc]
  · have h1' : ¬ (1 : Int) < (names.length : Int) := by omega
    refine ⟨N, a5, a6, ok, hN, by omega, ?_⟩
    unfold b_f24_1
    simp [nz, h1, h1']
theorem ix_ar (m : Bool) (R : List Arw) {k : Nat} {r : Arw} (h : R[k]? = some r) : opF csub .ix [.lst m (R.map Arw.d), .int (k : Nat)] = some r.d := by
  have hk := (List.getElem?_eq_some_iff.mp h).1
  rw [of_ixG csub m _ (by omega) (by simpa using hk), List.getElem?_map]
  simp [h]
theorem tkf24 (cs : List Int) (names : List Str) (N : Nt) (ok : N.Ok) (hN : N.ns = names) (c : Int) (a3 a5 a6 : Option D) :
    ∃ N' : Nt, N'.Ok ∧ N'.ns = names ∧ N'.ar.length ≤ N.ar.length ∧ runS pg_f23 moF fuel b_f24_2 (End cs names N a3 (some (.int c)) a5 a6) = .nx (End cs names N' a3 (some (.int c)) a5 a6) := by
  have am := arrows_m (P := pg_f23) N ok (by simp) (by simp)
  have ne := ar_ne ok
  have az := arL_fz N.ar
  by_cases h : mx c 4 % 9 = 0 ∧ N.ar ≠ []
  · have hp : 0 < N.ar.length := List.length_pos_iff.mpr h.2
    have hp' : (0 : Int) < (N.ar.length : Int) := by omega
    obtain ⟨k, hk, ek⟩ : ∃ k : Nat, k < N.ar.length ∧ mx c 5 % (N.ar.length : Int) = (k : Nat) := by
      have h0 := Int.emod_nonneg (mx c 5) (b := (N.ar.length : Int)) (by omega)
      have h1 := Int.emod_lt_of_pos (mx c 5) (b := (N.ar.length : Int)) (by omega)
      exact ⟨(mx c 5 % (N.ar.length : Int)).toNat, by omega, by omega⟩
    have hr : N.ar[k]? = some N.ar[k] := List.getElem?_eq_getElem hk
    have i1 := ix_ar true N.ar hr
    refine ⟨N.takeA k, ok.takeA k, hN, (List.eraseIdx_sublist _ _).length_le, ?_⟩
    unfold b_f24_2
    refine ife_t (β := End cs names N a3 (some (.int c)) a5 a6) (by simp [fnf22, h, am, ne]) ?_
    have hc := fnf15 N ok k _ hr
    refine io_meth (f := fid 15) (r := .non) (fin := [some (.int N.ar[k].n)]) (ds := [.int N.ar[k].n]) (N := N) (N' := N.takeA k) (i := 2) rfl (by decide +kernel) (by simp) ?_ ?_
    · simp [fnf22, am, hp, hp', ek, i1]
    · simp [hc]
  · refine ⟨N, ok, hN, Nat.le_refl _, ?_⟩
    unfold b_f24_2
    by_cases h4 : mx c 4 % 9 = 0
    · have h5 : N.ar = [] := Classical.byContradiction fun e => h ⟨h4, e⟩
      rw [h5] at am
      have e0 : opF csub .ne [.lst true [], .lst true []] = some (.bl false) := id rfl
      simp [fnf22, h4, am, e0]
    · simp [fnf22, h4]
theorem fnf24 (ns : List Int) : ∃ N : Nt, N.Ok ∧ N.ns = nms (ns.getD 0 0) ∧ N.ar.length ≤ 30 ∧ run_f24 [.lst false (ns.map D.int)] = .ok (N.d true) [some (.lst false (ns.map D.int))] := by
  have c0 : run_f21 [.lst false (ns.map D.int), .int 0] = .ok (.int (ns.getD 0 0)) [some (.lst false (ns.map D.int)), some (.int 0)] := fnf21 ns 0
  have nm := fnf23 (ns.getD 0 0)
  have nl := nms_len (ns.getD 0 0)
  have nd := nms_nd (ns.getD 0 0)
  have no := nms_ok (ns.getD 0 0)
  generalize ns.getD 0 0 = c at c0 nm nl nd no ⊢
  have nz := strL_fz (nms c)
  have nf := strL_fr (nms c)
  have ok0 : (⟨[], [], [], 0, [], []⟩ : Nt).Ok := ⟨List.nodup_nil, rfl, (fun _ h => by cases h), (fun _ h => by cases h), Nat.zero_le _, List.Pairwise.nil, (fun _ h => by cases h), Int.le_refl _, (fun _ h => by cases h), (fun _ h => by cases h), Nat.zero_le _⟩
  have mk := fnf9
  obtain ⟨α1, ⟨N1, a3, rfl, ok1, hN1, hA1⟩, e1⟩ := forGo_foldW (f := forD pg_f23 moF fuel (.one 3) b_f24_0) (e := D.str)
    (fun done α => ∃ (N : Nt) (a3 : Option D), α = End ns (nms c) N a3 none none none ∧ N.Ok ∧ N.ns = done ∧ N.ar = []) (nms c) (fun done x rest α hw I => by
      obtain ⟨N, a3, rfl, ok, hN, hA⟩ := I
      have nd' := nd
      rw [hw] at nd'
      have hx : x ∉ N.ns := by
        rw [hN]
        intro m
        exact (List.nodup_append.mp nd').2.2 x m x (by simp) rfl
      have hl : N.ns.length < 20 := by
        rw [hN]
        have := congrArg List.length hw
        simp at this
        omega
      have hxo := no x (by rw [hw]; simp)
      exact ⟨_, .inl (ptf24 ns (nms c) N ok x hxo hx hl a3 none none none), N.putP x 0, _, rfl, ok.putP hxo hx (by omega) hl, by rw [← hN], hA⟩) (α := End ns (nms c) ⟨[], [], [], 0, [], []⟩ none none none none) ⟨_, none, rfl, ok0, rfl, rfl⟩
  have hs : ((ns.drop 2).take 30).length ≤ 30 := by rw [List.length_take]; omega
  obtain ⟨α2, ⟨N2, a4, a5, a6, rfl, ok2, hN2, hl2⟩, e2⟩ := forGo_foldW (f := forD pg_f23 moF fuel (.one 4) b_f24_3) (e := D.int)
    (fun done α => ∃ (N : Nt) (a4 a5 a6 : Option D), α = End ns (nms c) N a3 a4 a5 a6 ∧ N.Ok ∧ N.ns = nms c ∧ N.ar.length ≤ done.length) ((ns.drop 2).take 30) (fun done q rest α hw I => by
      obtain ⟨N, a4, a5, a6, rfl, ok, hN, hl⟩ := I
      have hd : done.length < 30 := by
        have := congrArg List.length hw
        simp at this
        omega
      obtain ⟨N3, b5, b6, ok3, hN3, hl3, e3⟩ := arf24 ns (nms c) N ok hN (by omega) q a3 a5 a6
      obtain ⟨N4, ok4, hN4, hl4, e4⟩ := tkf24 ns (nms c) N3 ok3 hN3 q a3 b5 b6
      refine ⟨_, .inl ?_, N4, some (.int q), b5, b6, rfl, ok4, hN4, by simp; omega⟩
      unfold forD
      have ea : asgP (.one 4) (.int q) (End ns (nms c) N a3 a4 a5 a6) = some (End ns (nms c) N a3 (some (.int q)) a5 a6) := by simp
      rw [ea]
      unfold b_f24_3
      refine seq_nx e3 e4) (α := End ns (nms c) N1 a3 none none none) ⟨N1, none, none, none, rfl, ok1, hN1, by rw [hA1]; exact Nat.le_refl _⟩
  refine ⟨N2, ok2, hN2, by omega, ?_⟩
  have hc : cutL (ns.map D.int) (some 2) (some 32) = ((ns.drop 2).take 30).map D.int := by
    rw [List.map_take, List.map_drop]
    exact cut11 _ 2 32
  have h : runS pg_f23 moF fuel b_f24 [some (.lst false (ns.map D.int)), none, none, none, none, none, none] = .ret (N2.d true) [some (.lst false (ns.map D.int)), some (.lst false ((nms c).map D.str)), none, a3, a4, a5, a6] := by
    unfold b_f24
    refine seq_nx (β := [some (.lst false (ns.map D.int)), some (.lst false ((nms c).map D.str)), none, none, none, none, none]) (by simp [c0, nm, nf]) ?_
    refine seq_nx (β := End ns (nms c) ⟨[], [], [], 0, [], []⟩ none none none none) (by simp [mk]) ?_
    refine seq_nx (β := End ns (nms c) N1 a3 none none none) (by simp [nz, nf, e1]) ?_
    refine seq_nx (β := End ns (nms c) N2 a3 a4 a5 a6) ?_ ?_
    · simp only [rs_for, el_cons, el_nil, ev_prim, ev_v, ev_c]
      simp [hc, e2, -List.map_take, -List.map_drop]
    · simp
  rw [at_f24, h]
  simp



/-! the law k11 -/
abbrev Elf (R : List Arw) (x y : Str) (K : List Str) (i : Nat) (a5 : Option D) : Env := [some (arsD R), some (.str x), some (.str y), some (.lst true (K.map D.str)), some (.int (i : Nat)), a5]
theorem stf25 (R : List Arw) (hl : R.length ≤ 40) (x y : Str) (i : Nat) (K : List Str) (V : List (List Arw)) (m : Met R x i K V) (h : Str) (hk : K[i]? = some h) (r : Arw) (hr : r ∈ R) (a5 : Option D) :
    ∃ (K' : List Str) (V' : List (List Arw)), Met R x i K' V' ∧ K'[i]? = some h ∧ (∀ z ∈ K, z ∈ K') ∧ (r.a = h → r.b ∈ K') ∧ forD pg_f24 moF fuel (.one 5) b_f25_1 r.d (Elf R x y K i a5) = .nx (Elf R x y K' i (some r.d)) := by
  have hi : i < K.length := (List.getElem?_eq_some_iff.mp hk).1
  have kz := strL_fz K
  have kf := strL_fr K
  have ea : ∀ α : Env, asgP (.one 5) r.d (Elf R x y K i a5) = some (Elf R x y K i (some r.d)) := fun _ => by simp
  have ix : opF csub .ix [.lst false (K.map D.str), .int (i : Nat)] = some (.str h) := by
    rw [ix_str false K hi]
    rw [List.getElem?_eq_getElem hi] at hk
    rw [Option.some.inj hk]
  have ni := of_notinS csub false r.b K
  have kl := m.len
  have l2 : K.length < lim := by simp only [lim]; omega
  unfold forD
  rw [ea []]
  by_cases ha : r.a = h
  · by_cases hb : r.b ∈ K
    · refine ⟨K, V, m, hk, fun _ z => z, fun _ => hb, ?_⟩
      simp [b_f25_1, b_f25_0, kz, kf, ix, ha, ni, hb]
    · obtain ⟨l, hv⟩ : ∃ l, V[i]? = some l := ⟨_, List.getElem?_eq_getElem (by rw [← m.hl]; exact hi)⟩
      refine ⟨K ++ [r.b], V ++ [l ++ [r]], m.put hk hv hr ha hb, by rw [List.getElem?_append_left hi]; exact hk, fun z hz => List.mem_append_left _ hz, fun _ => List.mem_append_right _ (List.mem_singleton.mpr rfl), ?_⟩
      simp [b_f25_1, b_f25_0, kz, kf, ix, ha, ni, hb, l2]
  · refine ⟨K, V, m, hk, fun _ z => z, fun e => absurd e ha, ?_⟩
    have ne : (r.a == h) = false := by simpa using ha
    simp [b_f25_1, b_f25_0, kz, kf, ix, ne]
open Classical in
theorem fnf25 (R : List Arw) (hl : R.length ≤ 40) (x y : Str) : run_f25 [arsD R, .str x, .str y] = .ok (.bl (decide (Reach R x y))) [some (arsD R), some (.str x), some (.str y)] := by
  have rz := arL_fz R
  have rf := arL_fr R
  have lp := whGo_inv (t := evT pg_f24 (.b (.e (.brw 3 (.prim .lt (.cons (.v 4) (.cons (.prim .len (.cons (.v 3) .nil)) .nil))))))) (f := runS pg_f24 moF fuel b_f25_2)
    (fun m α => ∃ (i : Nat) (K : List Str) (V : List (List Arw)) (a5 : Option D), m + i = R.length + 2 ∧ i ≤ K.length ∧ Met R x i K V ∧ α = Elf R x y K i a5)
    (fun o => ∃ (i : Nat) (K : List Str) (V : List (List Arw)) (a5 : Option D), K.length ≤ i ∧ Met R x i K V ∧ o = .nx (Elf R x y K i a5)) fuel (R.length + 2) (Nat.lt_of_le_of_lt (m := 1000) (by omega) (by decide))
    (α := Elf R x y [x] 0 none) ⟨0, [x], [[]], none, rfl, by simp, Met.start R x, rfl⟩ (fun m α I => by
      obtain ⟨i, K, V, a5, hm, hi, M, rfl⟩ := I
      have kz := strL_fz K
      have kf := strL_fr K
      by_cases hq : i < K.length
      · obtain ⟨h, hk⟩ : ∃ h, K[i]? = some h := ⟨_, List.getElem?_eq_getElem hq⟩
        have hq' : (i : Int) < (K.length : Int) := by omega
        refine ⟨true, Elf R x y K i a5, by simp [kz, kf, hq, hq'], ?_⟩
        rw [if_pos rfl]
        left
        obtain ⟨α', ⟨K', V', b5, M', hk', hsub, hcl, rfl⟩, e2⟩ := forGo_foldW (f := forD pg_f24 moF fuel (.one 5) b_f25_1) (e := Arw.d)
          (fun done α => ∃ (K' : List Str) (V' : List (List Arw)) (b5 : Option D), Met R x i K' V' ∧ K'[i]? = some h ∧ (∀ z ∈ K, z ∈ K') ∧ (∀ r ∈ done, r.a = h → r.b ∈ K') ∧ α = Elf R x y K' i b5) R (fun done r rest α hw I => by
            obtain ⟨K', V', b5, M', hk', hsub, hcl, rfl⟩ := I
            obtain ⟨K2, V2, M2, hk2, hs2, hb2, e2⟩ := stf25 R hl x y i K' V' M' h hk' r (by rw [hw]; simp) b5
            exact ⟨_, .inl e2, K2, V2, _, M2, hk2, fun z hz => hs2 z (hsub z hz), fun q hq ha => by
              rcases List.mem_append.mp hq with hq | hq
              · exact hs2 _ (hcl q hq ha)
              · rw [List.mem_singleton.mp hq] at ha ⊢
                exact hb2 ha, rfl⟩) (α := Elf R x y K i a5) ⟨K, V, a5, M, hk, fun _ z => z, (fun q hq => by cases hq), rfl⟩
        have hi' : i < K'.length := (List.getElem?_eq_some_iff.mp hk').1
        have M3 := M'.next hk' hcl
        have kl := M3.len
        refine ⟨_, m - 1, .inl ?_, by omega, i + 1, K', V', b5, by omega, by omega, M3, rfl⟩
        unfold b_f25_2
        refine seq_nx (β := Elf R x y K' i b5) (by simp [rz, rf, e2]) ?_
        simp
      · have hq' : ¬ (i : Int) < (K.length : Int) := by omega
        refine ⟨false, Elf R x y K i a5, by simp [kz, kf, hq, hq'], ?_⟩
        rw [if_neg (by decide)]
        exact ⟨i, K, V, a5, by omega, M, rfl⟩)
  obtain ⟨i, K, V, a5, hi, M, lp⟩ := lp
  have kz := strL_fz K
  have kf := strL_fr K
  have inn := of_inS csub false y K
  have eR : decide (y ∈ K) = decide (Reach R x y) := decide_eq_decide.mpr (M.done hi).symm
  have h : runS pg_f24 moF fuel b_f25 [some (arsD R), some (.str x), some (.str y), none, none, none] = .ret (.bl (decide (Reach R x y))) [some (arsD R), some (.str x), some (.str y), some (.lst false (K.map D.str)), some (.int (i : Nat)), a5] := by
    unfold b_f25
    refine seq_nx (β := [some (arsD R), some (.str x), some (.str y), some (.lst true [.str x]), none, none]) (by simp) ?_
    refine seq_nx (β := Elf R x y [x] 0 none) (by simp) ?_
    refine seq_nx (β := Elf R x y K i a5) (by rw [rs_whl]; exact lp) ?_
    rw [← eR]
    simp [kz, kf, inn]
  rw [at_f25, h]
  simp [rz]
open Classical in
theorem fnf26 (R : List Arw) (hl : R.length ≤ 40) : run_f26 [arsD R] = .ok (.lst true (((abt R).map (·.n)).map D.int)) [some (arsD R)] := by
  have rz := arL_fz R
  have rf := arL_fr R
  obtain ⟨α', ⟨a3, rfl⟩, e⟩ := forGo_foldW (f := forD pg_f25 moF fuel (.one 3) b_f26_1) (e := Arw.d)
    (fun done α => ∃ a3 : Option D, α = [some (arsD R), some (.lst true ((kept done).map Arw.d)), some (.lst true (((abt done).map (·.n)).map D.int)), a3]) R (fun done r rest α hw I => by
      obtain ⟨a3, rfl⟩ := I
      have dl : done.length < 40 := by
        have := congrArg List.length hw
        simp at this
        omega
      have kl := (kept_sub done).length_le
      have al := (abt_sub done).length_le
      have kz := arL_fz (kept done)
      have kf := arL_fr (kept done)
      have l1 : (kept done).length < lim := by simp only [lim]; omega
      have l2 : (abt done).length < lim := by simp only [lim]; omega
      have e := fnf25 (kept done) (by omega) r.b r.a
      by_cases h : Reach (kept done) r.b r.a
      · refine ⟨_, .inl ?_, some r.d, rfl⟩
        have ek : kept (done ++ [r]) = kept done := by show (spl (done ++ [r])).1 = _; rw [spl_t h]
        have ea : abt (done ++ [r]) = abt done ++ [r] := by show (spl (done ++ [r])).2 = _; rw [spl_t h]
        rw [ek, ea]
        rw [decide_eq_true h] at e
        unfold forD
        simp [b_f26_1, b_f26_0, kz, kf, e, l2]
      · refine ⟨_, .inl ?_, some r.d, rfl⟩
        have ek : kept (done ++ [r]) = kept done ++ [r] := by show (spl (done ++ [r])).1 = _; rw [spl_k h]
        have ea : abt (done ++ [r]) = abt done := by show (spl (done ++ [r])).2 = _; rw [spl_k h]
        rw [ek, ea]
        rw [decide_eq_false h] at e
        unfold forD
        simp [b_f26_1, b_f26_0, kz, kf, e, l1]) (α := [some (arsD R), some (.lst true []), some (.lst true []), none]) ⟨none, by simp [kept, abt, spl]⟩
  have h : runS pg_f25 moF fuel b_f26 [some (arsD R), none, none, none] = .ret (.lst true (((abt R).map (·.n)).map D.int)) [some (arsD R), some (.lst true ((kept R).map Arw.d)), none, a3] := by
    unfold b_f26
    refine seq_nx (β := [some (arsD R), some (.lst true []), none, none]) (by simp) ?_
    refine seq_nx (β := [some (arsD R), some (.lst true []), some (.lst true []), none]) (by simp) ?_
    refine seq_nx (β := [some (arsD R), some (.lst true ((kept R).map Arw.d)), some (.lst true (((abt R).map (·.n)).map D.int)), a3]) (by simp [rz, rf, e, -List.map_map]) ?_
    simp [-List.map_map]
  rw [at_f26, h]
  simp [rz, -List.map_map]
theorem fnf27 (N : Nt) (ok : N.Ok) : run_f27 [N.d false] = .ok (.bl true) [some (N.d false)] := by
  have am := arrows_m (P := pg_f26) N ok (by simp) (by simp)
  have e1 := fnf26 N.ar ok.l40
  have e2 := fnf5 N ok
  have az := arL_fz N.ar
  have af := arL_fr N.ar
  have al := (abt_sub N.ar).length_le
  have ll := ok.l40
  obtain ⟨A, hA⟩ : ∃ A, A = (abt N.ar).map (·.n) := ⟨_, rfl⟩
  have hAl : A.length < lim := by rw [hA, List.length_map]; simp only [lim]; omega
  rw [← hA] at e1 e2
  have ne : opF csub .ne [.lst false (A.map D.int), .lst false (A.map D.int)] = some (.bl false) := of_neZ csub rfl (by rw [pl_lst]; exact pl_ints A 8) (by rw [pl_lst]; exact pl_ints A 8)
  have ty : opF csub (.isT "list") [.lst false (A.map D.int)] = some (.bl true) := id rfl
  have g : lcGo (lcTurn pg_f26 (.one 4) c_f27_0 (.v 4) [some (N.d false), some (arsD N.ar), some (.lst false (A.map D.int)), some (.lst false (A.map D.int)), none]) (A.map D.int) [] = .ok (.lst true []) := by
    rw [lcGo_filterf (e := D.int) (h := D.int) (p := fun _ => false) A [] fun i _ => ?_]
    · simp
    · have ti : opF csub (.isT "bool") [.int i] = some (.bl false) := id rfl
      simp [lcTurn, c_f27_0, ti]
  have n0 : opF csub .ne [.lst true [], .lst true []] = some (.bl false) := id rfl
  have q1 : opF csub .eq [.lst true (A.map D.int), .lst false (A.map D.int)] = some (.bl true) := of_eqZ csub (by simp) (by rw [dok_lst]; exact dok_ints A 19)
  have q2 : opF csub .eq [.lst true (N.ar.map Arw.d), arsD N.ar] = some (.bl true) := of_eqZ csub (by simp) (by rw [dok_lst]; exact dok_ars N.ar 18)
  have h : runS pg_f26 moF fuel b_f27 [some (N.d false), none, none, none, none] = .ret (.bl true) [some (N.d false), some (arsD N.ar), some (.lst false (A.map D.int)), some (.lst true (A.map D.int ++ [.int 0])), none] := by
    unfold b_f27
    refine seq_nx (β := [some (N.d false), some (arsD N.ar), none, none, none]) (by simp [am, af]) ?_
    refine seq_nx (β := [some (N.d false), some (arsD N.ar), some (.lst false (A.map D.int)), none, none]) (by simp [az, af, e1]) ?_
    refine seq_nx (β := [some (N.d false), some (arsD N.ar), some (.lst false (A.map D.int)), some (.lst true (A.map D.int)), none]) (by simp [e2]) ?_
    refine seq_nx (β := [some (N.d false), some (arsD N.ar), some (.lst false (A.map D.int)), some (.lst true (A.map D.int)), none]) (by simp [ne, ty]) ?_
    refine seq_nx (β := [some (N.d false), some (arsD N.ar), some (.lst false (A.map D.int)), some (.lst true (A.map D.int)), none]) (by simp [g, n0, hAl]) ?_
    refine seq_nx (β := [some (N.d false), some (arsD N.ar), some (.lst false (A.map D.int)), some (.lst true (A.map D.int ++ [.int 0])), none]) (by simp [hAl]) ?_
    simp [e2, am, q1, q2, az]
  rw [at_f27, h]
  simp
theorem answers : Answers run_f28 := by
  intro ns hl hb
  obtain ⟨N, ok, hN, hl, e0⟩ := fnf24 ns
  have c1 : run_f21 [.lst false (ns.map D.int), .int 1] = .ok (.int (ns.getD 1 0)) [some (.lst false (ns.map D.int)), some (.int 1)] := fnf21 ns 1
  generalize ns.getD 1 0 = c at c1
  have r1 := fnf27 N ok
  have t1 := fnf5 N ok
  obtain ⟨A, hA⟩ : ∃ A, A = (abt N.ar).map (·.n) := ⟨_, rfl⟩
  rw [← hA] at t1
  have am := arrows_m (P := pg_f27) N ok (by simp) (by simp)
  have az := arL_fz N.ar
  have af := arL_fr N.ar
  have nl := ok.l40
  have nl2 : N.ar.length < lim := by simp only [lim]; omega
  obtain ⟨B, hB⟩ : ∃ B, B = N.ar.filter fun r => !decide (r.n ∈ A) := ⟨_, rfl⟩
  have g : lcGo (lcTurn pg_f27 (.one 4) c_f28_1 c_f28_0 [some (.lst false (ns.map D.int)), some (N.d false), some (.lst false (A.map D.int)), none, none]) (N.ar.map Arw.d) [] = .ok (.lst true ((B.map (·.n)).map D.int)) := by
    rw [lcGo_filterf (e := Arw.d) (h := fun r => D.int r.n) (p := fun r => !decide (r.n ∈ A)) N.ar [] fun r _ => ?_]
    · rw [hB]; simp
    · have ni := of_notinI false r.n A
      by_cases h : r.n ∈ A <;> simp [lcTurn, c_f28_0, c_f28_1, ni, h]
  -- the last kept one, taken out or not
  obtain ⟨N2, ok2, st2⟩ : ∃ N2 : Nt, N2.Ok ∧ ∀ a4 : Option D, runS pg_f27 moF fuel b_f28_0 [some (.lst false (ns.map D.int)), some (N.d true), some (.lst false (A.map D.int)), some (.lst false ((B.map (·.n)).map D.int)), a4] = .nx [some (.lst false (ns.map D.int)), some (N2.d true), some (.lst false (A.map D.int)), some (.lst false ((B.map (·.n)).map D.int)), a4] := by
    have nb := ne_nilI false true (B.map (·.n))
    by_cases hb0 : B = []
    · refine ⟨N, ok, fun a4 => ?_⟩
      unfold b_f28_0
      have nb' : opF csub .ne [.lst false ((B.map (·.n)).map D.int), .lst true []] = some (.bl false) := by rw [nb, hb0]; rfl
      simp [nb', -List.map_map]
    · have hp : 0 < B.length := List.length_pos_iff.mpr hb0
      obtain ⟨k, hk, ek⟩ : ∃ k : Nat, k < B.length ∧ c % (B.length : Int) = (k : Nat) := by
        have h0 := Int.emod_nonneg c (b := (B.length : Int)) (by omega)
        have h1 := Int.emod_lt_of_pos c (b := (B.length : Int)) (by omega)
        exact ⟨(c % (B.length : Int)).toNat, by omega, by omega⟩
      have hm : B[k] ∈ N.ar := (List.mem_filter (p := fun r => !decide (r.n ∈ A)).mp (by rw [← hB]; exact List.getElem_mem _)).1
      obtain ⟨j, hj, ej⟩ := List.getElem_of_mem hm
      have hr : N.ar[j]? = some B[k] := by rw [List.getElem?_eq_getElem hj, ej]
      refine ⟨N.takeA j, ok.takeA j, fun a4 => ?_⟩
      have hc := fnf15 N ok j B[k] hr
      have nb' : opF csub .ne [.lst false ((B.map (·.n)).map D.int), .lst true []] = some (.bl true) := by
        rw [nb, decide_eq_false (by simp [hb0])]
        rfl
      have ix : opF csub .ix [.lst false ((B.map (·.n)).map D.int), .int (k : Nat)] = some (.int B[k].n) := by
        rw [of_ixG csub false _ (by omega) (by simpa using hk)]
        simp [hk]
      have hpI : (0 : Int) < (B.length : Int) := by omega
      unfold b_f28_0
      refine ife_t (β := [some (.lst false (ns.map D.int)), some (N.d true), some (.lst false (A.map D.int)), some (.lst false ((B.map (·.n)).map D.int)), a4]) (by simp [nb', -List.map_map]) ?_
      refine io_meth (f := fid 15) (r := .non) (fin := [some (.int B[k].n)]) (ds := [.int B[k].n]) (N := N) (N' := N.takeA j) (i := 1) rfl (by decide +kernel) (by simp) ?_ ?_
      · simp [c1, hp, hpI, ek, ix, -List.map_map]
      · simp [hc]
  have r2 := fnf27 N2 ok2
  have t2 := fnf5 N2 ok2
  obtain ⟨A2, hA2⟩ : ∃ A, A = (abt N2.ar).map (·.n) := ⟨_, rfl⟩
  rw [← hA2] at t2
  obtain ⟨N3, ok3, st3⟩ : ∃ N3 : Nt, N3.Ok ∧ ∀ a3 a4 : Option D, runS pg_f27 moF fuel b_f28_1 [some (.lst false (ns.map D.int)), some (N2.d true), some (.lst false (A2.map D.int)), a3, a4] = .nx [some (.lst false (ns.map D.int)), some (N3.d true), some (.lst false (A2.map D.int)), a3, a4] := by
    have nb := ne_nilI false true A2
    by_cases hb0 : A2 = []
    · refine ⟨N2, ok2, fun a3 a4 => ?_⟩
      unfold b_f28_1
      have nb' : opF csub .ne [.lst false (A2.map D.int), .lst true []] = some (.bl false) := by rw [nb, hb0]; rfl
      simp [nb']
    · have hp : 0 < A2.length := List.length_pos_iff.mpr hb0
      obtain ⟨r, hr, er⟩ : ∃ r ∈ N2.ar, r.n = A2[0] := by
        have h : ∀ z ∈ A2, ∃ r ∈ N2.ar, r.n = z := fun z hz => by
          rw [hA2] at hz
          obtain ⟨r, hr, e⟩ := List.mem_map.mp hz
          exact ⟨r, (abt_sub _).subset hr, e⟩
        exact h _ (List.getElem_mem hp)
      obtain ⟨j, hj, ej⟩ := List.getElem_of_mem hr
      have hr : N2.ar[j]? = some r := by rw [List.getElem?_eq_getElem hj, ej]
      refine ⟨N2.takeA j, ok2.takeA j, fun a3 a4 => ?_⟩
      have hc := fnf15 N2 ok2 j r hr
      have nb' : opF csub .ne [.lst false (A2.map D.int), .lst true []] = some (.bl true) := by
        rw [nb, decide_eq_false hb0]
        rfl
      have ix : opF csub .ix [.lst false (A2.map D.int), .int 0] = some (.int r.n) := by
        rw [of_ixG csub false _ (by omega) (by simpa using hp)]
        simp [hp, er]
      unfold b_f28_1
      refine ife_t (β := [some (.lst false (ns.map D.int)), some (N2.d true), some (.lst false (A2.map D.int)), a3, a4]) (by simp [nb']) ?_
      refine io_meth (f := fid 15) (r := .non) (fin := [some (.int r.n)]) (ds := [.int r.n]) (N := N2) (N' := N2.takeA j) (i := 1) rfl (by decide +kernel) (by simp) ?_ ?_
      · simp [ix]
      · simp [hc]
  have r3 := fnf27 N3 ok3
  have h : runS pg_f27 moF fuel b_f28 [some (.lst false (ns.map D.int)), none, none, none, none] = .ret (.bl true) [some (.lst false (ns.map D.int)), some (N3.d false), some (.lst false (A2.map D.int)), some (.lst false ((B.map (·.n)).map D.int)), none] := by
    unfold b_f28
    refine seq_nx (β := [some (.lst false (ns.map D.int)), some (N.d true), none, none, none]) (by simp [e0]) ?_
    refine seq_nx (β := [some (.lst false (ns.map D.int)), some (N.d true), none, none, none]) (by simp [r1]) ?_
    refine seq_nx (β := [some (.lst false (ns.map D.int)), some (N.d true), some (.lst false (A.map D.int)), none, none]) (by simp [t1]) ?_
    refine seq_nx (β := [some (.lst false (ns.map D.int)), some (N.d true), some (.lst false (A.map D.int)), some (.lst false ((B.map (·.n)).map D.int)), none]) (by simp [am, az, af, nl2, g, -List.map_map]) ?_
    refine seq_nx (st2 none) ?_
    refine seq_nx (β := [some (.lst false (ns.map D.int)), some (N2.d true), some (.lst false (A.map D.int)), some (.lst false ((B.map (·.n)).map D.int)), none]) (by simp [r2, -List.map_map]) ?_
    refine seq_nx (β := [some (.lst false (ns.map D.int)), some (N2.d true), some (.lst false (A2.map D.int)), some (.lst false ((B.map (·.n)).map D.int)), none]) (by simp [t2, -List.map_map]) ?_
    refine seq_nx (st3 _ none) ?_
    simp [r3, -List.map_map]
  exact ⟨_, by rw [at_f28, h]; rfl⟩



end LD
open PySem PySem.W PyProof.Rows
set_option maxRecDepth 100000 in
set_option maxHeartbeats 0 in
theorem PySem.Challenge.cw_layerdraw_k11_which_arrows_are_turned_holds : PySem.Challenge.rw_layerdraw_k11_which_arrows_are_turned.Holds := by
  w_on; o_law; k_head; (case hw => w_witness2)
  k_fill
  refine LD.walkLD (l := PySem.Challenge.rw_layerdraw_k11_which_arrows_are_turned) (k := 5) (x := "_law_script") (run := LD.run_f28) rfl rfl ⟨rfl, by decide, by decide⟩ (fun w h Y => PySem.W.kIn_of Y) LD.answers ?F
  case F =>
    intro w mg fa h KX G hmg
    refine' LD.fin (LD.all_mk KX G ?b_all ?b_bool ?b_isinstance ?b_len ?b_list ?b_range ?b_sorted ?c_LETTERS ?c_MOST_ARROWS ?c_MOST_POINTS ?g_Net ?pg_Net ?hd_Net ?po_Net ?sa_Net ?ca_Net ?mr_Net ?na_Net_drawn_arrows ?na_Net_given ?na_Net_halves ?na_Net_level_pairs ?na_Net_near_pairs ?me_Net_arrows ?me_Net_both_there ?me_Net_put_arrow ?me_Net_put_point ?me_Net_take_arrow ?ms_Net ?in_Net ?kc_Net ?sp ?tk ?n_f3 ?l_f3 ?c_f3 ?k_f3 ?i_f18 ?l_f18 ?c_f18 ?k_f18 ?n_f4 ?l_f4 ?c_f4 ?k_f4 ?n_f5 ?l_f5 ?c_f5 ?k_f5 ?n_f6 ?l_f6 ?c_f6 ?k_f6 ?n_f7 ?l_f7 ?c_f7 ?k_f7 ?n_f8 ?l_f8 ?c_f8 ?k_f8 ?i_f9 ?l_f9 ?c_f9 ?k_f9 ?i_f10 ?l_f10 ?c_f10 ?k_f10 ?i_f11 ?z_f11 ?l_f11 ?c_f11 ?k_f11 ?i_f12 ?z_f12 ?l_f12 ?c_f12 ?k_f12 ?i_f15 ?l_f15 ?c_f15 ?k_f15 ?n_f21 ?l_f21 ?c_f21 ?k_f21 ?n_f22 ?l_f22 ?c_f22 ?k_f22 ?n_f23 ?l_f23 ?c_f23 ?k_f23 ?n_f24 ?l_f24 ?c_f24 ?k_f24 ?n_f25 ?l_f25 ?c_f25 ?k_f25 ?n_f26 ?l_f26 ?c_f26 ?k_f26 ?n_f27 ?l_f27 ?c_f27 ?k_f27 ?n_f28 ?l_f28 ?c_f28 ?k_f28) hmg
    (case g_Net => k_is)
    (case n_f3 => k_is)
    (case n_f4 => k_is)
    (case n_f5 => k_is)
    (case n_f6 => k_is)
    (case n_f7 => k_is)
    (case n_f8 => k_is)
    (case n_f21 => k_is)
    (case n_f22 => k_is)
    (case n_f23 => k_is)
    (case n_f24 => k_is)
    (case n_f25 => k_is)
    (case n_f26 => k_is)
    (case n_f27 => k_is)
    (case n_f28 => k_is)
    (case me_Net_arrows => k_is)
    (case me_Net_both_there => k_is)
    (case me_Net_put_arrow => k_is)
    (case me_Net_put_point => k_is)
    (case me_Net_take_arrow => k_is)
    (case in_Net => k_is)
    (case b_all => k_is)
    (case b_bool => k_is)
    (case b_isinstance => k_is)
    (case b_len => k_is)
    (case b_list => k_is)
    (case b_range => k_is)
    (case b_sorted => k_is)
    (case c_LETTERS => k_is)
    (case c_MOST_ARROWS => k_is)
    (case c_MOST_POINTS => k_is)
    (case pg_Net => k_is)
    (case hd_Net => k_is)
    (case po_Net => k_is)
    (case sa_Net => k_is)
    (case ca_Net => k_is)
    (case mr_Net => k_is)
    (case na_Net_drawn_arrows => k_is)
    (case na_Net_given => k_is)
    (case na_Net_halves => k_is)
    (case na_Net_level_pairs => k_is)
    (case na_Net_near_pairs => k_is)
    (case ms_Net => k_is)
    (case kc_Net => k_is)
    (case sp => k_is)
    (case tk => k_is)
    (case l_f3 => k_is)
    (case c_f3 => k_is)
    (case k_f3 => k_is)
    (case i_f18 => k_is)
    (case l_f18 => k_is)
    (case c_f18 => k_is)
    (case k_f18 => k_is)
    (case l_f4 => k_is)
    (case c_f4 => k_is)
    (case k_f4 => k_is)
    (case l_f5 => k_is)
    (case c_f5 => k_is)
    (case k_f5 => k_is)
    (case l_f6 => k_is)
    (case c_f6 => k_is)
    (case k_f6 => k_is)
    (case l_f7 => k_is)
    (case c_f7 => k_is)
    (case k_f7 => k_is)
    (case l_f8 => k_is)
    (case c_f8 => k_is)
    (case k_f8 => k_is)
    (case i_f9 => k_is)
    (case l_f9 => k_is)
    (case c_f9 => k_is)
    (case k_f9 => k_is)
    (case i_f10 => k_is)
    (case l_f10 => k_is)
    (case c_f10 => k_is)
    (case k_f10 => k_is)
    (case i_f11 => k_is)
    (case l_f11 => k_is)
    (case c_f11 => k_is)
    (case k_f11 => k_is)
    (case i_f12 => k_is)
    (case l_f12 => k_is)
    (case c_f12 => k_is)
    (case k_f12 => k_is)
    (case i_f15 => k_is)
    (case l_f15 => k_is)
    (case c_f15 => k_is)
    (case k_f15 => k_is)
    (case l_f21 => k_is)
    (case c_f21 => k_is)
    (case k_f21 => k_is)
    (case l_f22 => k_is)
    (case c_f22 => k_is)
    (case k_f22 => k_is)
    (case l_f23 => k_is)
    (case c_f23 => k_is)
    (case k_f23 => k_is)
    (case l_f24 => k_is)
    (case c_f24 => k_is)
    (case k_f24 => k_is)
    (case l_f25 => k_is)
    (case c_f25 => k_is)
    (case k_f25 => k_is)
    (case l_f26 => k_is)
    (case c_f26 => k_is)
    (case k_f26 => k_is)
    (case l_f27 => k_is)
    (case c_f27 => k_is)
    (case k_f27 => k_is)
    (case l_f28 => k_is)
    (case c_f28 => k_is)
    (case k_f28 => k_is)
    (case z_f11 => k_is)
    (case z_f12 => k_is)
