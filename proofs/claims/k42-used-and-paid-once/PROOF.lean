import PyProof.Rows.All
import Wide.All
import OpenK.AllK
import Wide.FinOn
import KE.KStateDown
import Wide.Once
import Lean
import HandS.ForMost
import HandS.ForExc
import HandS.Defaults
import HandS.Head0
import HandS.Head1
import HandS.Head2
import HandS.HeadEnd
import HandS.HeadHook1
import HandS.HeadHook2
import PySem.Challenge.RW_letterheld_k42_used_and_paid_once_whole
import HandS.RaiseMore
import HandS.Deep
import HandS.Zip
import HandS.More
import HandS.Conv
import HandS.CallRecv
import HandS.IsInst
import KE.GoesEnum
import HandS.Walk
import KE.KIntText
import HandS.Exc
import KE.GoesComp
import KE.GoesRaise
import HandS.TryOnly
import HandS.ExcOwn
import HandS.Lambda
set_option Elab.async false
set_option linter.all false
set_option maxRecDepth 100000
set_option maxHeartbeats 0
namespace LH
open PySem PySem.Spec PyProof.Rows L2
def top (i : Nat) : Stmt := PySem.Challenge.pw_letterheld_k42_used_and_paid_once_whole.main.body.getD i (.Pass ⟨0, 0, 0, 0⟩)
abbrev s_is_office : Stmt := top 19
abbrev s_id_of : Stmt := top 22
abbrev s_format_line : Stmt := top 28
abbrev s_whole_lines : Stmt := top 29
abbrev s_parse_journal : Stmt := top 30
abbrev s_check_quantity : Stmt := top 36
abbrev s_law_names : Stmt := top 41
abbrev s_law_holder : Stmt := top 42
abbrev s_law_sizes : Stmt := top 43
abbrev s_law_joined : Stmt := top 44
abbrev s_law_net : Stmt := top 45
abbrev s_law_step : Stmt := top 46
abbrev s_law_try : Stmt := top 47
abbrev s_law_users : Stmt := top 48
abbrev s_law_payments : Stmt := top 49
abbrev s_law_right : Stmt := top 50
abbrev s_law : Stmt := top 51
abbrev sNet_init : Stmt := inClass (top 13) 0
abbrev sNet_letters : Stmt := inClass (top 13) 1
abbrev sNet_send : Stmt := inClass (top 13) 2
abbrev sNet_take : Stmt := inClass (top 13) 3
abbrev sNet_double : Stmt := inClass (top 13) 4
abbrev sNet_at : Stmt := inClass (top 13) 5
abbrev sEntry_init : Stmt := inClass (top 33) 0
abbrev sEntry_begin : Stmt := inClass (top 33) 1
abbrev sEntry_is_free : Stmt := inClass (top 33) 2
abbrev sEntry_told : Stmt := inClass (top 33) 3
abbrev sBook_init : Stmt := inClass (top 34) 0
abbrev sBook_entry : Stmt := inClass (top 34) 1
abbrev sBook_is_free : Stmt := inClass (top 34) 2
abbrev sBook_new_ids : Stmt := inClass (top 34) 3
abbrev sBook_fits : Stmt := inClass (top 34) 4
abbrev sBook_fits_got : Stmt := inClass (top 34) 5
abbrev sBook_fits_split : Stmt := inClass (top 34) 6
abbrev sBook_fits_join : Stmt := inClass (top 34) 7
abbrev sBook_fits_answer : Stmt := inClass (top 34) 8
abbrev sBook_apply : Stmt := inClass (top 34) 9
abbrev sBook_begin : Stmt := inClass (top 34) 10
abbrev sBook_give : Stmt := inClass (top 34) 11
abbrev sBook_got : Stmt := inClass (top 34) 12
abbrev sBook_split : Stmt := inClass (top 34) 13
abbrev sBook_join : Stmt := inClass (top 34) 14
abbrev sBook_mark : Stmt := inClass (top 34) 15
abbrev sBook_answer : Stmt := inClass (top 34) 16
abbrev sOffice_init : Stmt := inClass (top 37) 0
abbrev sOffice_journal : Stmt := inClass (top 37) 1
abbrev sOffice_entry : Stmt := inClass (top 37) 2
abbrev sOffice_known : Stmt := inClass (top 37) 3
abbrev sOffice_held : Stmt := inClass (top 37) 4
abbrev sOffice_payments : Stmt := inClass (top 37) 5
abbrev sOffice_credit : Stmt := inClass (top 37) 6
abbrev sOffice_create : Stmt := inClass (top 37) 7
abbrev sOffice_give : Stmt := inClass (top 37) 8
abbrev sOffice_split : Stmt := inClass (top 37) 9
abbrev sOffice_join : Stmt := inClass (top 37) 10
abbrev sOffice_use : Stmt := inClass (top 37) 11
abbrev sOffice_recall : Stmt := inClass (top 37) 12
abbrev sOffice_pending : Stmt := inClass (top 37) 13
abbrev sOffice_receive : Stmt := inClass (top 37) 14
abbrev sOffice_write : Stmt := inClass (top 37) 15
abbrev sOffice_note : Stmt := inClass (top 37) 16
abbrev sOffice_free : Stmt := inClass (top 37) 17
abbrev sOffice_letters_of : Stmt := inClass (top 37) 18
abbrev sOffice_receive_deed : Stmt := inClass (top 37) 19
abbrev sOffice_receive_notice : Stmt := inClass (top 37) 20
abbrev sOffice_receive_claim : Stmt := inClass (top 37) 21
abbrev sWorld_init : Stmt := inClass (top 39) 0
abbrev sWorld_names : Stmt := inClass (top 39) 1
abbrev sWorld_office : Stmt := inClass (top 39) 2
abbrev sWorld_create : Stmt := inClass (top 39) 3
abbrev sWorld_give : Stmt := inClass (top 39) 4
abbrev sWorld_split : Stmt := inClass (top 39) 5
abbrev sWorld_join : Stmt := inClass (top 39) 6
abbrev sWorld_use : Stmt := inClass (top 39) 7
abbrev sWorld_recall : Stmt := inClass (top 39) 8
abbrev sWorld_tick : Stmt := inClass (top 39) 9
abbrev sWorld_deliver : Stmt := inClass (top 39) 10
abbrev sWorld_cut : Stmt := inClass (top 39) 11
abbrev sWorld_calm : Stmt := inClass (top 39) 12
abbrev sWorld_waits : Stmt := inClass (top 39) 13
abbrev sWorld_send : Stmt := inClass (top 39) 14
/-! ### the head: facts by names, the run -/
def d_is_office : He.DefD := ⟨("is_office", none), "is_office", "is_office", defArgs s_is_office, defBody s_is_office, defScope s_is_office, [], []⟩
def d_id_of : He.DefD := ⟨("id_of", none), "id_of", "id_of", defArgs s_id_of, defBody s_id_of, defScope s_id_of, [], []⟩
def d_format_line : He.DefD := ⟨("format_line", none), "format_line", "format_line", defArgs s_format_line, defBody s_format_line, defScope s_format_line, [], []⟩
def d_whole_lines : He.DefD := ⟨("whole_lines", none), "whole_lines", "whole_lines", defArgs s_whole_lines, defBody s_whole_lines, defScope s_whole_lines, [], []⟩
def d_parse_journal : He.DefD := ⟨("parse_journal", none), "parse_journal", "parse_journal", defArgs s_parse_journal, defBody s_parse_journal, defScope s_parse_journal, [], []⟩
def d_check_quantity : He.DefD := ⟨("check_quantity", none), "check_quantity", "check_quantity", defArgs s_check_quantity, defBody s_check_quantity, defScope s_check_quantity, [], []⟩
def d_law_names : He.DefD := ⟨("_law_names", none), "_law_names", "_law_names", defArgs s_law_names, defBody s_law_names, defScope s_law_names, [], []⟩
def d_law_holder : He.DefD := ⟨("_law_holder", none), "_law_holder", "_law_holder", defArgs s_law_holder, defBody s_law_holder, defScope s_law_holder, [], []⟩
def d_law_sizes : He.DefD := ⟨("_law_sizes", none), "_law_sizes", "_law_sizes", defArgs s_law_sizes, defBody s_law_sizes, defScope s_law_sizes, [], []⟩
def d_law_joined : He.DefD := ⟨("_law_joined", none), "_law_joined", "_law_joined", defArgs s_law_joined, defBody s_law_joined, defScope s_law_joined, [], []⟩
def d_law_net : He.DefD := ⟨("_law_net", none), "_law_net", "_law_net", defArgs s_law_net, defBody s_law_net, defScope s_law_net, [], []⟩
def d_law_step : He.DefD := ⟨("_law_step", none), "_law_step", "_law_step", defArgs s_law_step, defBody s_law_step, defScope s_law_step, [], []⟩
def d_law_try : He.DefD := ⟨("_law_try", none), "_law_try", "_law_try", defArgs s_law_try, defBody s_law_try, defScope s_law_try, [], []⟩
def d_law_users : He.DefD := ⟨("_law_users", none), "_law_users", "_law_users", defArgs s_law_users, defBody s_law_users, defScope s_law_users, [], []⟩
def d_law_payments : He.DefD := ⟨("_law_payments", none), "_law_payments", "_law_payments", defArgs s_law_payments, defBody s_law_payments, defScope s_law_payments, [], []⟩
def d_law_right : He.DefD := ⟨("_law_right", none), "_law_right", "_law_right", defArgs s_law_right, defBody s_law_right, defScope s_law_right, [], []⟩
def d_law : He.DefD := ⟨("law", none), "law", "law", defArgs s_law, defBody s_law, defScope s_law, [], []⟩
def dNet_init : He.DefD := ⟨("Net", some "__init__"), "__init__", "Net.__init__", defArgs sNet_init, defBody sNet_init, defScope sNet_init, [], []⟩
def dNet_letters : He.DefD := ⟨("Net", some "letters"), "letters", "Net.letters", defArgs sNet_letters, defBody sNet_letters, defScope sNet_letters, [], []⟩
def dNet_send : He.DefD := ⟨("Net", some "send"), "send", "Net.send", defArgs sNet_send, defBody sNet_send, defScope sNet_send, [], []⟩
def dNet_take : He.DefD := ⟨("Net", some "take"), "take", "Net.take", defArgs sNet_take, defBody sNet_take, defScope sNet_take, [], []⟩
def dNet_double : He.DefD := ⟨("Net", some "double"), "double", "Net.double", defArgs sNet_double, defBody sNet_double, defScope sNet_double, [], []⟩
def dNet_at : He.DefD := ⟨("Net", some "_at"), "_at", "Net._at", defArgs sNet_at, defBody sNet_at, defScope sNet_at, [], []⟩
def dEntry_init : He.DefD := ⟨("Entry", some "__init__"), "__init__", "Entry.__init__", defArgs sEntry_init, defBody sEntry_init, defScope sEntry_init, [], []⟩
def dEntry_begin : He.DefD := ⟨("Entry", some "begin"), "begin", "Entry.begin", defArgs sEntry_begin, defBody sEntry_begin, defScope sEntry_begin, [], []⟩
def dEntry_is_free : He.DefD := ⟨("Entry", some "is_free"), "is_free", "Entry.is_free", defArgs sEntry_is_free, defBody sEntry_is_free, defScope sEntry_is_free, [], []⟩
def dEntry_told : He.DefD := ⟨("Entry", some "told"), "told", "Entry.told", defArgs sEntry_told, defBody sEntry_told, defScope sEntry_told, [], []⟩
def dBook_init : He.DefD := ⟨("Book", some "__init__"), "__init__", "Book.__init__", defArgs sBook_init, defBody sBook_init, defScope sBook_init, [], []⟩
def dBook_entry : He.DefD := ⟨("Book", some "entry"), "entry", "Book.entry", defArgs sBook_entry, defBody sBook_entry, defScope sBook_entry, [], []⟩
def dBook_is_free : He.DefD := ⟨("Book", some "is_free"), "is_free", "Book.is_free", defArgs sBook_is_free, defBody sBook_is_free, defScope sBook_is_free, [], []⟩
def dBook_new_ids : He.DefD := ⟨("Book", some "new_ids"), "new_ids", "Book.new_ids", defArgs sBook_new_ids, defBody sBook_new_ids, defScope sBook_new_ids, [], []⟩
def dBook_fits : He.DefD := ⟨("Book", some "fits"), "fits", "Book.fits", defArgs sBook_fits, defBody sBook_fits, defScope sBook_fits, [], []⟩
def dBook_fits_got : He.DefD := ⟨("Book", some "_fits_got"), "_fits_got", "Book._fits_got", defArgs sBook_fits_got, defBody sBook_fits_got, defScope sBook_fits_got, [], []⟩
def dBook_fits_split : He.DefD := ⟨("Book", some "_fits_split"), "_fits_split", "Book._fits_split", defArgs sBook_fits_split, defBody sBook_fits_split, defScope sBook_fits_split, [], []⟩
def dBook_fits_join : He.DefD := ⟨("Book", some "_fits_join"), "_fits_join", "Book._fits_join", defArgs sBook_fits_join, defBody sBook_fits_join, defScope sBook_fits_join, [], []⟩
def dBook_fits_answer : He.DefD := ⟨("Book", some "_fits_answer"), "_fits_answer", "Book._fits_answer", defArgs sBook_fits_answer, defBody sBook_fits_answer, defScope sBook_fits_answer, [], []⟩
def dBook_apply : He.DefD := ⟨("Book", some "apply"), "apply", "Book.apply", defArgs sBook_apply, defBody sBook_apply, defScope sBook_apply, [], []⟩
def dBook_begin : He.DefD := ⟨("Book", some "_begin"), "_begin", "Book._begin", defArgs sBook_begin, defBody sBook_begin, defScope sBook_begin, [], []⟩
def dBook_give : He.DefD := ⟨("Book", some "_give"), "_give", "Book._give", defArgs sBook_give, defBody sBook_give, defScope sBook_give, [], []⟩
def dBook_got : He.DefD := ⟨("Book", some "_got"), "_got", "Book._got", defArgs sBook_got, defBody sBook_got, defScope sBook_got, [], []⟩
def dBook_split : He.DefD := ⟨("Book", some "_split"), "_split", "Book._split", defArgs sBook_split, defBody sBook_split, defScope sBook_split, [], []⟩
def dBook_join : He.DefD := ⟨("Book", some "_join"), "_join", "Book._join", defArgs sBook_join, defBody sBook_join, defScope sBook_join, [], []⟩
def dBook_mark : He.DefD := ⟨("Book", some "_mark"), "_mark", "Book._mark", defArgs sBook_mark, defBody sBook_mark, defScope sBook_mark, [], []⟩
def dBook_answer : He.DefD := ⟨("Book", some "_answer"), "_answer", "Book._answer", defArgs sBook_answer, defBody sBook_answer, defScope sBook_answer, [], []⟩
def dOffice_init : He.DefD := ⟨("Office", some "__init__"), "__init__", "Office.__init__", defArgs sOffice_init, defBody sOffice_init, defScope sOffice_init, [.str ""], []⟩
def dOffice_journal : He.DefD := ⟨("Office", some "journal"), "journal", "Office.journal", defArgs sOffice_journal, defBody sOffice_journal, defScope sOffice_journal, [], []⟩
def dOffice_entry : He.DefD := ⟨("Office", some "entry"), "entry", "Office.entry", defArgs sOffice_entry, defBody sOffice_entry, defScope sOffice_entry, [], []⟩
def dOffice_known : He.DefD := ⟨("Office", some "known"), "known", "Office.known", defArgs sOffice_known, defBody sOffice_known, defScope sOffice_known, [], []⟩
def dOffice_held : He.DefD := ⟨("Office", some "held"), "held", "Office.held", defArgs sOffice_held, defBody sOffice_held, defScope sOffice_held, [], []⟩
def dOffice_payments : He.DefD := ⟨("Office", some "payments"), "payments", "Office.payments", defArgs sOffice_payments, defBody sOffice_payments, defScope sOffice_payments, [], []⟩
def dOffice_credit : He.DefD := ⟨("Office", some "credit"), "credit", "Office.credit", defArgs sOffice_credit, defBody sOffice_credit, defScope sOffice_credit, [], []⟩
def dOffice_create : He.DefD := ⟨("Office", some "create"), "create", "Office.create", defArgs sOffice_create, defBody sOffice_create, defScope sOffice_create, [], []⟩
def dOffice_give : He.DefD := ⟨("Office", some "give"), "give", "Office.give", defArgs sOffice_give, defBody sOffice_give, defScope sOffice_give, [], []⟩
def dOffice_split : He.DefD := ⟨("Office", some "split"), "split", "Office.split", defArgs sOffice_split, defBody sOffice_split, defScope sOffice_split, [], []⟩
def dOffice_join : He.DefD := ⟨("Office", some "join"), "join", "Office.join", defArgs sOffice_join, defBody sOffice_join, defScope sOffice_join, [], []⟩
def dOffice_use : He.DefD := ⟨("Office", some "use"), "use", "Office.use", defArgs sOffice_use, defBody sOffice_use, defScope sOffice_use, [], []⟩
def dOffice_recall : He.DefD := ⟨("Office", some "recall"), "recall", "Office.recall", defArgs sOffice_recall, defBody sOffice_recall, defScope sOffice_recall, [], []⟩
def dOffice_pending : He.DefD := ⟨("Office", some "pending"), "pending", "Office.pending", defArgs sOffice_pending, defBody sOffice_pending, defScope sOffice_pending, [], []⟩
def dOffice_receive : He.DefD := ⟨("Office", some "receive"), "receive", "Office.receive", defArgs sOffice_receive, defBody sOffice_receive, defScope sOffice_receive, [], []⟩
def dOffice_write : He.DefD := ⟨("Office", some "_write"), "_write", "Office._write", defArgs sOffice_write, defBody sOffice_write, defScope sOffice_write, [], []⟩
def dOffice_note : He.DefD := ⟨("Office", some "_note"), "_note", "Office._note", defArgs sOffice_note, defBody sOffice_note, defScope sOffice_note, [], []⟩
def dOffice_free : He.DefD := ⟨("Office", some "_free"), "_free", "Office._free", defArgs sOffice_free, defBody sOffice_free, defScope sOffice_free, [], []⟩
def dOffice_letters_of : He.DefD := ⟨("Office", some "_letters_of"), "_letters_of", "Office._letters_of", defArgs sOffice_letters_of, defBody sOffice_letters_of, defScope sOffice_letters_of, [], []⟩
def dOffice_receive_deed : He.DefD := ⟨("Office", some "_receive_deed"), "_receive_deed", "Office._receive_deed", defArgs sOffice_receive_deed, defBody sOffice_receive_deed, defScope sOffice_receive_deed, [], []⟩
def dOffice_receive_notice : He.DefD := ⟨("Office", some "_receive_notice"), "_receive_notice", "Office._receive_notice", defArgs sOffice_receive_notice, defBody sOffice_receive_notice, defScope sOffice_receive_notice, [], []⟩
def dOffice_receive_claim : He.DefD := ⟨("Office", some "_receive_claim"), "_receive_claim", "Office._receive_claim", defArgs sOffice_receive_claim, defBody sOffice_receive_claim, defScope sOffice_receive_claim, [], []⟩
def dWorld_init : He.DefD := ⟨("World", some "__init__"), "__init__", "World.__init__", defArgs sWorld_init, defBody sWorld_init, defScope sWorld_init, [], []⟩
def dWorld_names : He.DefD := ⟨("World", some "names"), "names", "World.names", defArgs sWorld_names, defBody sWorld_names, defScope sWorld_names, [], []⟩
def dWorld_office : He.DefD := ⟨("World", some "office"), "office", "World.office", defArgs sWorld_office, defBody sWorld_office, defScope sWorld_office, [], []⟩
def dWorld_create : He.DefD := ⟨("World", some "create"), "create", "World.create", defArgs sWorld_create, defBody sWorld_create, defScope sWorld_create, [], []⟩
def dWorld_give : He.DefD := ⟨("World", some "give"), "give", "World.give", defArgs sWorld_give, defBody sWorld_give, defScope sWorld_give, [], []⟩
def dWorld_split : He.DefD := ⟨("World", some "split"), "split", "World.split", defArgs sWorld_split, defBody sWorld_split, defScope sWorld_split, [], []⟩
def dWorld_join : He.DefD := ⟨("World", some "join"), "join", "World.join", defArgs sWorld_join, defBody sWorld_join, defScope sWorld_join, [], []⟩
def dWorld_use : He.DefD := ⟨("World", some "use"), "use", "World.use", defArgs sWorld_use, defBody sWorld_use, defScope sWorld_use, [], []⟩
def dWorld_recall : He.DefD := ⟨("World", some "recall"), "recall", "World.recall", defArgs sWorld_recall, defBody sWorld_recall, defScope sWorld_recall, [], []⟩
def dWorld_tick : He.DefD := ⟨("World", some "tick"), "tick", "World.tick", defArgs sWorld_tick, defBody sWorld_tick, defScope sWorld_tick, [], []⟩
def dWorld_deliver : He.DefD := ⟨("World", some "deliver"), "deliver", "World.deliver", defArgs sWorld_deliver, defBody sWorld_deliver, defScope sWorld_deliver, [], []⟩
def dWorld_cut : He.DefD := ⟨("World", some "cut"), "cut", "World.cut", defArgs sWorld_cut, defBody sWorld_cut, defScope sWorld_cut, [], []⟩
def dWorld_calm : He.DefD := ⟨("World", some "calm"), "calm", "World.calm", defArgs sWorld_calm, defBody sWorld_calm, defScope sWorld_calm, [], []⟩
def dWorld_waits : He.DefD := ⟨("World", some "_waits"), "_waits", "World._waits", defArgs sWorld_waits, defBody sWorld_waits, defScope sWorld_waits, [], []⟩
def dWorld_send : He.DefD := ⟨("World", some "_send"), "_send", "World._send", defArgs sWorld_send, defBody sWorld_send, defScope sWorld_send, [], []⟩
def fnL : List He.DefD := [d_is_office, d_id_of, d_format_line, d_whole_lines, d_parse_journal, d_check_quantity, d_law_names, d_law_holder, d_law_sizes, d_law_joined, d_law_net, d_law_step, d_law_try, d_law_users, d_law_payments, d_law_right, d_law, dNet_init, dNet_letters, dNet_send, dNet_take, dNet_double, dNet_at, dEntry_init, dEntry_begin, dEntry_is_free, dEntry_told, dBook_init, dBook_entry, dBook_is_free, dBook_new_ids, dBook_fits, dBook_fits_got, dBook_fits_split, dBook_fits_join, dBook_fits_answer, dBook_apply, dBook_begin, dBook_give, dBook_got, dBook_split, dBook_join, dBook_mark, dBook_answer, dOffice_init, dOffice_journal, dOffice_entry, dOffice_known, dOffice_held, dOffice_payments, dOffice_credit, dOffice_create, dOffice_give, dOffice_split, dOffice_join, dOffice_use, dOffice_recall, dOffice_pending, dOffice_receive, dOffice_write, dOffice_note, dOffice_free, dOffice_letters_of, dOffice_receive_deed, dOffice_receive_notice, dOffice_receive_claim, dWorld_init, dWorld_names, dWorld_office, dWorld_create, dWorld_give, dWorld_split, dWorld_join, dWorld_use, dWorld_recall, dWorld_tick, dWorld_deliver, dWorld_cut, dWorld_calm, dWorld_waits, dWorld_send]
def faL : List He.Fa := [.glo "is_office", .glo "id_of", .glo "format_line", .glo "whole_lines", .glo "parse_journal", .glo "check_quantity", .glo "_law_names", .glo "_law_holder", .glo "_law_sizes", .glo "_law_joined", .glo "_law_net", .glo "_law_step", .glo "_law_try", .glo "_law_users", .glo "_law_payments", .glo "_law_right", .glo "law", .glo "Net", .cls "Net", .mkr "Net", .glo "Entry", .cls "Entry", .mkr "Entry", .glo "Book", .cls "Book", .mkr "Book", .glo "Office", .cls "Office", .mkr "Office", .glo "World", .cls "World", .mkr "World", .noat "Net" "_letters", .meth "Net" "letters", .meth "Net" "send", .meth "Net" "take", .meth "Net" "double", .meth "Net" "_at", .noat "Entry" "thing", .noat "Entry" "home", .noat "Entry" "quantity", .noat "Entry" "epoch", .noat "Entry" "state", .noat "Entry" "receiver", .noat "Entry" "children", .noat "Entry" "is_recalled", .noat "Entry" "is_received", .noat "Entry" "is_noted", .noat "Entry" "is_paid", .meth "Entry" "begin", .meth "Entry" "is_free", .meth "Entry" "told", .noat "Book" "office", .noat "Book" "entries", .noat "Book" "payments", .noat "Book" "credit", .noat "Book" "next_number", .meth "Book" "entry", .meth "Book" "is_free", .meth "Book" "new_ids", .meth "Book" "fits", .meth "Book" "_fits_got", .meth "Book" "_fits_split", .meth "Book" "_fits_join", .meth "Book" "_fits_answer", .meth "Book" "apply", .meth "Book" "_begin", .meth "Book" "_give", .meth "Book" "_got", .meth "Book" "_split", .meth "Book" "_join", .meth "Book" "_mark", .meth "Book" "_answer", .noat "Office" "name", .noat "Office" "_book", .noat "Office" "_lines", .meth "Office" "journal", .meth "Office" "entry", .meth "Office" "known", .meth "Office" "held", .meth "Office" "payments", .meth "Office" "credit", .meth "Office" "create", .meth "Office" "give", .meth "Office" "split", .meth "Office" "join", .meth "Office" "use", .meth "Office" "recall", .meth "Office" "pending", .meth "Office" "receive", .meth "Office" "_write", .meth "Office" "_note", .meth "Office" "_free", .meth "Office" "_letters_of", .meth "Office" "_receive_deed", .meth "Office" "_receive_notice", .meth "Office" "_receive_claim", .noat "World" "net", .noat "World" "_offices", .meth "World" "names", .meth "World" "office", .meth "World" "create", .meth "World" "give", .meth "World" "split", .meth "World" "join", .meth "World" "use", .meth "World" "recall", .meth "World" "tick", .meth "World" "deliver", .meth "World" "cut", .meth "World" "calm", .meth "World" "_waits", .meth "World" "_send", .glo "HeldError", .exc "HeldError", .exm "HeldError" "HeldError" true, .glo "NotHeld", .exc "NotHeld", .exm "NotHeld" "HeldError" true, .glo "Frozen", .exc "Frozen", .exm "Frozen" "HeldError" true, .glo "UnknownThing", .exc "UnknownThing", .exm "UnknownThing" "HeldError" true, .glo "InvalidQuantity", .exc "InvalidQuantity", .exm "InvalidQuantity" "HeldError" true, .glo "InvalidOffice", .exc "InvalidOffice", .exm "InvalidOffice" "HeldError" true, .glo "InvalidThings", .exc "InvalidThings", .exm "InvalidThings" "HeldError" true, .glo "NoLetter", .exc "NoLetter", .exm "NoLetter" "HeldError" true, .free "len", .free "range", .free "str", .free "int", .free "bool", .free "isinstance", .free "sorted", .free "enumerate", .free "zip", .free "list", .free "tuple", .free "sum", .free "max", .free "min", .int "MOST" 1000000000, .str "LETTERS" "abcdefghijklmnopqrstuvwxyz"]

abbrev R : PySem.W.OpenRow := PySem.W.OpenLaw.row PySem.Challenge.rw_letterheld_k42_used_and_paid_once_whole
abbrev hk : PySem.W.Hook := He.hookD 4 faL fnL
def obsH (s : PySem.W.SharedT) : He.AlD := He.obsDG 4 faL fnL (HandSHeadRun.getT s)
theorem obs_eq (s : PySem.W.SharedT) : obsH s = hk.obs s.abs := He.obsDG_eq (HandSHeadRun.getT_eq s)
def looseA : List Str := ["_wall", "HeldError", "InvalidLine", "BrokenJournal", "NotHeld", "Frozen", "UnknownThing", "InvalidQuantity", "InvalidOffice", "InvalidThings", "NoLetter", "Net", "GREATEST", "LETTERS", "DIGITS", "LINES", "is_office", "number_of", "is_thing", "id_of", "value_of", "values_of"]
def looseB : List Str := ["parse_split", "parse_join", "row_of", "format_line", "whole_lines", "parse_journal", "MOST", "Entry", "Book", "check_quantity", "Office", "World", "_law_names", "_law_holder", "_law_sizes", "_law_joined", "_law_net", "_law_step", "_law_try", "_law_users", "_law_payments", "_law_right"]
def looseN : List Str := looseA ++ looseB
end LH
namespace LH
open PySem PySem.W PySem.Calls PyProof.Rows HandSHeadRun
noncomputable abbrev endsW (w : World) (os : PySem.OsState) := endF (stepQ (denQ tabQ) R.prog w) 9000 R.prog w os
abbrev vw : Program := PySem.W.view R.prog [51]
def SeenA (w : World) : Prop := ∀ os : PySem.OsState, (endsW w os).map (fun s => seenQ vw looseN (importedModules R.prog.main.body) (fun s => xlAt vw [] s && recOk R.toRowW.records s) s.abs) = some (openGood vw looseN)
def LooksA (w : World) : Prop := ∀ os : PySem.OsState, (endsW w os).map (fun s => (looksF R.prog (boot_heap w.params) s.abs, obsH s)) = some (true, hk.val w)
theorem seen_f (w : World) : SeenA (w.withFollow "special-get-raises" false) := by
  intro os
  kernel_rfl
theorem seen_t (w : World) : SeenA (w.withFollow "special-get-raises" true) := by
  intro os
  kernel_rfl
theorem looks_f (w : World) : LooksA (w.withFollow "special-get-raises" false) := by
  intro os
  kernel_rfl
theorem looks_t (w : World) : LooksA (w.withFollow "special-get-raises" true) := by
  intro os
  kernel_rfl
theorem map3 {α β γ δ : Type} {o : Option α} {f : α → β} {g : α → γ} {h : α → δ} {b : β} {c : γ} {d : δ} (h1 : o.map g = some c) (h2 : o.map (fun x => (f x, h x)) = some (b, d)) : o.map (fun x => (f x, g x, h x)) = some (b, c, d) := by
  cases o with
  | none => cases h1
  | some a =>
    injection h1 with e1
    injection h2 with e2
    injection e2 with e3 e4
    show some (f a, g a, h a) = some (b, c, d)
    rw [e1, e3, e4]
theorem run (w : World) : RunEq R vw hk obsH 9000 looseN w := fun os =>
  map3 (byRow2 "special-get-raises" (P := SeenA) seen_f seen_t w os) (byRow2 "special-get-raises" (P := LooksA) looks_f looks_t w os)
end LH
namespace LH
open PySem PySem.Spec PyProof.Rows L2
/-! ### addresses of the classes and defs, the facts about them -/
abbrev cNet (K : PySem.W.Frag) : Addr := He.ga K "Net"
abbrev cEntry (K : PySem.W.Frag) : Addr := He.ga K "Entry"
abbrev cBook (K : PySem.W.Frag) : Addr := He.ga K "Book"
abbrev cOffice (K : PySem.W.Frag) : Addr := He.ga K "Office"
abbrev cWorld (K : PySem.W.Frag) : Addr := He.ga K "World"
abbrev xHeldError (K : PySem.W.Frag) : Addr := He.ga K "HeldError"
abbrev xNotHeld (K : PySem.W.Frag) : Addr := He.ga K "NotHeld"
abbrev xFrozen (K : PySem.W.Frag) : Addr := He.ga K "Frozen"
abbrev xUnknownThing (K : PySem.W.Frag) : Addr := He.ga K "UnknownThing"
abbrev xInvalidQuantity (K : PySem.W.Frag) : Addr := He.ga K "InvalidQuantity"
abbrev xInvalidOffice (K : PySem.W.Frag) : Addr := He.ga K "InvalidOffice"
abbrev xInvalidThings (K : PySem.W.Frag) : Addr := He.ga K "InvalidThings"
abbrev xNoLetter (K : PySem.W.Frag) : Addr := He.ga K "NoLetter"
abbrev f_is_office (K : PySem.W.Frag) : Addr := He.ga K "is_office"
abbrev f_id_of (K : PySem.W.Frag) : Addr := He.ga K "id_of"
abbrev f_format_line (K : PySem.W.Frag) : Addr := He.ga K "format_line"
abbrev f_whole_lines (K : PySem.W.Frag) : Addr := He.ga K "whole_lines"
abbrev f_parse_journal (K : PySem.W.Frag) : Addr := He.ga K "parse_journal"
abbrev f_check_quantity (K : PySem.W.Frag) : Addr := He.ga K "check_quantity"
abbrev f_law_names (K : PySem.W.Frag) : Addr := He.ga K "_law_names"
abbrev f_law_holder (K : PySem.W.Frag) : Addr := He.ga K "_law_holder"
abbrev f_law_sizes (K : PySem.W.Frag) : Addr := He.ga K "_law_sizes"
abbrev f_law_joined (K : PySem.W.Frag) : Addr := He.ga K "_law_joined"
abbrev f_law_net (K : PySem.W.Frag) : Addr := He.ga K "_law_net"
abbrev f_law_step (K : PySem.W.Frag) : Addr := He.ga K "_law_step"
abbrev f_law_try (K : PySem.W.Frag) : Addr := He.ga K "_law_try"
abbrev f_law_users (K : PySem.W.Frag) : Addr := He.ga K "_law_users"
abbrev f_law_payments (K : PySem.W.Frag) : Addr := He.ga K "_law_payments"
abbrev f_law_right (K : PySem.W.Frag) : Addr := He.ga K "_law_right"
abbrev f_law (K : PySem.W.Frag) : Addr := He.ga K "law"
abbrev fNet_init (K : PySem.W.Frag) : Addr := He.ma K (He.ga K "Net") "__init__"
abbrev fNet_letters (K : PySem.W.Frag) : Addr := He.ma K (He.ga K "Net") "letters"
abbrev fNet_send (K : PySem.W.Frag) : Addr := He.ma K (He.ga K "Net") "send"
abbrev fNet_take (K : PySem.W.Frag) : Addr := He.ma K (He.ga K "Net") "take"
abbrev fNet_double (K : PySem.W.Frag) : Addr := He.ma K (He.ga K "Net") "double"
abbrev fNet_at (K : PySem.W.Frag) : Addr := He.ma K (He.ga K "Net") "_at"
abbrev fEntry_init (K : PySem.W.Frag) : Addr := He.ma K (He.ga K "Entry") "__init__"
abbrev fEntry_begin (K : PySem.W.Frag) : Addr := He.ma K (He.ga K "Entry") "begin"
abbrev fEntry_is_free (K : PySem.W.Frag) : Addr := He.ma K (He.ga K "Entry") "is_free"
abbrev fEntry_told (K : PySem.W.Frag) : Addr := He.ma K (He.ga K "Entry") "told"
abbrev fBook_init (K : PySem.W.Frag) : Addr := He.ma K (He.ga K "Book") "__init__"
abbrev fBook_entry (K : PySem.W.Frag) : Addr := He.ma K (He.ga K "Book") "entry"
abbrev fBook_is_free (K : PySem.W.Frag) : Addr := He.ma K (He.ga K "Book") "is_free"
abbrev fBook_new_ids (K : PySem.W.Frag) : Addr := He.ma K (He.ga K "Book") "new_ids"
abbrev fBook_fits (K : PySem.W.Frag) : Addr := He.ma K (He.ga K "Book") "fits"
abbrev fBook_fits_got (K : PySem.W.Frag) : Addr := He.ma K (He.ga K "Book") "_fits_got"
abbrev fBook_fits_split (K : PySem.W.Frag) : Addr := He.ma K (He.ga K "Book") "_fits_split"
abbrev fBook_fits_join (K : PySem.W.Frag) : Addr := He.ma K (He.ga K "Book") "_fits_join"
abbrev fBook_fits_answer (K : PySem.W.Frag) : Addr := He.ma K (He.ga K "Book") "_fits_answer"
abbrev fBook_apply (K : PySem.W.Frag) : Addr := He.ma K (He.ga K "Book") "apply"
abbrev fBook_begin (K : PySem.W.Frag) : Addr := He.ma K (He.ga K "Book") "_begin"
abbrev fBook_give (K : PySem.W.Frag) : Addr := He.ma K (He.ga K "Book") "_give"
abbrev fBook_got (K : PySem.W.Frag) : Addr := He.ma K (He.ga K "Book") "_got"
abbrev fBook_split (K : PySem.W.Frag) : Addr := He.ma K (He.ga K "Book") "_split"
abbrev fBook_join (K : PySem.W.Frag) : Addr := He.ma K (He.ga K "Book") "_join"
abbrev fBook_mark (K : PySem.W.Frag) : Addr := He.ma K (He.ga K "Book") "_mark"
abbrev fBook_answer (K : PySem.W.Frag) : Addr := He.ma K (He.ga K "Book") "_answer"
abbrev fOffice_init (K : PySem.W.Frag) : Addr := He.ma K (He.ga K "Office") "__init__"
abbrev fOffice_journal (K : PySem.W.Frag) : Addr := He.ma K (He.ga K "Office") "journal"
abbrev fOffice_entry (K : PySem.W.Frag) : Addr := He.ma K (He.ga K "Office") "entry"
abbrev fOffice_known (K : PySem.W.Frag) : Addr := He.ma K (He.ga K "Office") "known"
abbrev fOffice_held (K : PySem.W.Frag) : Addr := He.ma K (He.ga K "Office") "held"
abbrev fOffice_payments (K : PySem.W.Frag) : Addr := He.ma K (He.ga K "Office") "payments"
abbrev fOffice_credit (K : PySem.W.Frag) : Addr := He.ma K (He.ga K "Office") "credit"
abbrev fOffice_create (K : PySem.W.Frag) : Addr := He.ma K (He.ga K "Office") "create"
abbrev fOffice_give (K : PySem.W.Frag) : Addr := He.ma K (He.ga K "Office") "give"
abbrev fOffice_split (K : PySem.W.Frag) : Addr := He.ma K (He.ga K "Office") "split"
abbrev fOffice_join (K : PySem.W.Frag) : Addr := He.ma K (He.ga K "Office") "join"
abbrev fOffice_use (K : PySem.W.Frag) : Addr := He.ma K (He.ga K "Office") "use"
abbrev fOffice_recall (K : PySem.W.Frag) : Addr := He.ma K (He.ga K "Office") "recall"
abbrev fOffice_pending (K : PySem.W.Frag) : Addr := He.ma K (He.ga K "Office") "pending"
abbrev fOffice_receive (K : PySem.W.Frag) : Addr := He.ma K (He.ga K "Office") "receive"
abbrev fOffice_write (K : PySem.W.Frag) : Addr := He.ma K (He.ga K "Office") "_write"
abbrev fOffice_note (K : PySem.W.Frag) : Addr := He.ma K (He.ga K "Office") "_note"
abbrev fOffice_free (K : PySem.W.Frag) : Addr := He.ma K (He.ga K "Office") "_free"
abbrev fOffice_letters_of (K : PySem.W.Frag) : Addr := He.ma K (He.ga K "Office") "_letters_of"
abbrev fOffice_receive_deed (K : PySem.W.Frag) : Addr := He.ma K (He.ga K "Office") "_receive_deed"
abbrev fOffice_receive_notice (K : PySem.W.Frag) : Addr := He.ma K (He.ga K "Office") "_receive_notice"
abbrev fOffice_receive_claim (K : PySem.W.Frag) : Addr := He.ma K (He.ga K "Office") "_receive_claim"
abbrev fWorld_init (K : PySem.W.Frag) : Addr := He.ma K (He.ga K "World") "__init__"
abbrev fWorld_names (K : PySem.W.Frag) : Addr := He.ma K (He.ga K "World") "names"
abbrev fWorld_office (K : PySem.W.Frag) : Addr := He.ma K (He.ga K "World") "office"
abbrev fWorld_create (K : PySem.W.Frag) : Addr := He.ma K (He.ga K "World") "create"
abbrev fWorld_give (K : PySem.W.Frag) : Addr := He.ma K (He.ga K "World") "give"
abbrev fWorld_split (K : PySem.W.Frag) : Addr := He.ma K (He.ga K "World") "split"
abbrev fWorld_join (K : PySem.W.Frag) : Addr := He.ma K (He.ga K "World") "join"
abbrev fWorld_use (K : PySem.W.Frag) : Addr := He.ma K (He.ga K "World") "use"
abbrev fWorld_recall (K : PySem.W.Frag) : Addr := He.ma K (He.ga K "World") "recall"
abbrev fWorld_tick (K : PySem.W.Frag) : Addr := He.ma K (He.ga K "World") "tick"
abbrev fWorld_deliver (K : PySem.W.Frag) : Addr := He.ma K (He.ga K "World") "deliver"
abbrev fWorld_cut (K : PySem.W.Frag) : Addr := He.ma K (He.ga K "World") "cut"
abbrev fWorld_calm (K : PySem.W.Frag) : Addr := He.ma K (He.ga K "World") "calm"
abbrev fWorld_waits (K : PySem.W.Frag) : Addr := He.ma K (He.ga K "World") "_waits"
abbrev fWorld_send (K : PySem.W.Frag) : Addr := He.ma K (He.ga K "World") "_send"
abbrev FnP (K : PySem.W.Frag) (x qual : Str) (st : Stmt) (dvs : List V) (f : Addr) (fd : FuncData) : Prop := FunD K x qual (defArgs st) (defBody st) (defScope st) dvs [] f fd
structure Txt (K : PySem.W.Frag) (mg : Str → Option Value) : Prop where
  g_is_office : mg "is_office" = some (.ref (f_is_office K))
  g_id_of : mg "id_of" = some (.ref (f_id_of K))
  g_format_line : mg "format_line" = some (.ref (f_format_line K))
  g_whole_lines : mg "whole_lines" = some (.ref (f_whole_lines K))
  g_parse_journal : mg "parse_journal" = some (.ref (f_parse_journal K))
  g_check_quantity : mg "check_quantity" = some (.ref (f_check_quantity K))
  g_law_names : mg "_law_names" = some (.ref (f_law_names K))
  g_law_holder : mg "_law_holder" = some (.ref (f_law_holder K))
  g_law_sizes : mg "_law_sizes" = some (.ref (f_law_sizes K))
  g_law_joined : mg "_law_joined" = some (.ref (f_law_joined K))
  g_law_net : mg "_law_net" = some (.ref (f_law_net K))
  g_law_step : mg "_law_step" = some (.ref (f_law_step K))
  g_law_try : mg "_law_try" = some (.ref (f_law_try K))
  g_law_users : mg "_law_users" = some (.ref (f_law_users K))
  g_law_payments : mg "_law_payments" = some (.ref (f_law_payments K))
  g_law_right : mg "_law_right" = some (.ref (f_law_right K))
  g_law : mg "law" = some (.ref (f_law K))
  g_Net : mg "Net" = some (.ref (cNet K))
  cl_Net : Cls K (cNet K)
  mk_Net : Mk K (cNet K) (fNet_init K)
  g_Entry : mg "Entry" = some (.ref (cEntry K))
  cl_Entry : Cls K (cEntry K)
  mk_Entry : Mk K (cEntry K) (fEntry_init K)
  g_Book : mg "Book" = some (.ref (cBook K))
  cl_Book : Cls K (cBook K)
  mk_Book : Mk K (cBook K) (fBook_init K)
  g_Office : mg "Office" = some (.ref (cOffice K))
  cl_Office : Cls K (cOffice K)
  mk_Office : Mk K (cOffice K) (fOffice_init K)
  g_World : mg "World" = some (.ref (cWorld K))
  cl_World : Cls K (cWorld K)
  mk_World : Mk K (cWorld K) (fWorld_init K)
  n_Net__letters : NoAttr K (cNet K) "_letters"
  m_Net_letters : Meth K (cNet K) "letters" (fNet_letters K)
  m_Net_send : Meth K (cNet K) "send" (fNet_send K)
  m_Net_take : Meth K (cNet K) "take" (fNet_take K)
  m_Net_double : Meth K (cNet K) "double" (fNet_double K)
  m_Net_at : Meth K (cNet K) "_at" (fNet_at K)
  n_Entry_thing : NoAttr K (cEntry K) "thing"
  n_Entry_home : NoAttr K (cEntry K) "home"
  n_Entry_quantity : NoAttr K (cEntry K) "quantity"
  n_Entry_epoch : NoAttr K (cEntry K) "epoch"
  n_Entry_state : NoAttr K (cEntry K) "state"
  n_Entry_receiver : NoAttr K (cEntry K) "receiver"
  n_Entry_children : NoAttr K (cEntry K) "children"
  n_Entry_is_recalled : NoAttr K (cEntry K) "is_recalled"
  n_Entry_is_received : NoAttr K (cEntry K) "is_received"
  n_Entry_is_noted : NoAttr K (cEntry K) "is_noted"
  n_Entry_is_paid : NoAttr K (cEntry K) "is_paid"
  m_Entry_begin : Meth K (cEntry K) "begin" (fEntry_begin K)
  m_Entry_is_free : Meth K (cEntry K) "is_free" (fEntry_is_free K)
  m_Entry_told : Meth K (cEntry K) "told" (fEntry_told K)
  n_Book_office : NoAttr K (cBook K) "office"
  n_Book_entries : NoAttr K (cBook K) "entries"
  n_Book_payments : NoAttr K (cBook K) "payments"
  n_Book_credit : NoAttr K (cBook K) "credit"
  n_Book_next_number : NoAttr K (cBook K) "next_number"
  m_Book_entry : Meth K (cBook K) "entry" (fBook_entry K)
  m_Book_is_free : Meth K (cBook K) "is_free" (fBook_is_free K)
  m_Book_new_ids : Meth K (cBook K) "new_ids" (fBook_new_ids K)
  m_Book_fits : Meth K (cBook K) "fits" (fBook_fits K)
  m_Book_fits_got : Meth K (cBook K) "_fits_got" (fBook_fits_got K)
  m_Book_fits_split : Meth K (cBook K) "_fits_split" (fBook_fits_split K)
  m_Book_fits_join : Meth K (cBook K) "_fits_join" (fBook_fits_join K)
  m_Book_fits_answer : Meth K (cBook K) "_fits_answer" (fBook_fits_answer K)
  m_Book_apply : Meth K (cBook K) "apply" (fBook_apply K)
  m_Book_begin : Meth K (cBook K) "_begin" (fBook_begin K)
  m_Book_give : Meth K (cBook K) "_give" (fBook_give K)
  m_Book_got : Meth K (cBook K) "_got" (fBook_got K)
  m_Book_split : Meth K (cBook K) "_split" (fBook_split K)
  m_Book_join : Meth K (cBook K) "_join" (fBook_join K)
  m_Book_mark : Meth K (cBook K) "_mark" (fBook_mark K)
  m_Book_answer : Meth K (cBook K) "_answer" (fBook_answer K)
  n_Office_name : NoAttr K (cOffice K) "name"
  n_Office__book : NoAttr K (cOffice K) "_book"
  n_Office__lines : NoAttr K (cOffice K) "_lines"
  m_Office_journal : Meth K (cOffice K) "journal" (fOffice_journal K)
  m_Office_entry : Meth K (cOffice K) "entry" (fOffice_entry K)
  m_Office_known : Meth K (cOffice K) "known" (fOffice_known K)
  m_Office_held : Meth K (cOffice K) "held" (fOffice_held K)
  m_Office_payments : Meth K (cOffice K) "payments" (fOffice_payments K)
  m_Office_credit : Meth K (cOffice K) "credit" (fOffice_credit K)
  m_Office_create : Meth K (cOffice K) "create" (fOffice_create K)
  m_Office_give : Meth K (cOffice K) "give" (fOffice_give K)
  m_Office_split : Meth K (cOffice K) "split" (fOffice_split K)
  m_Office_join : Meth K (cOffice K) "join" (fOffice_join K)
  m_Office_use : Meth K (cOffice K) "use" (fOffice_use K)
  m_Office_recall : Meth K (cOffice K) "recall" (fOffice_recall K)
  m_Office_pending : Meth K (cOffice K) "pending" (fOffice_pending K)
  m_Office_receive : Meth K (cOffice K) "receive" (fOffice_receive K)
  m_Office_write : Meth K (cOffice K) "_write" (fOffice_write K)
  m_Office_note : Meth K (cOffice K) "_note" (fOffice_note K)
  m_Office_free : Meth K (cOffice K) "_free" (fOffice_free K)
  m_Office_letters_of : Meth K (cOffice K) "_letters_of" (fOffice_letters_of K)
  m_Office_receive_deed : Meth K (cOffice K) "_receive_deed" (fOffice_receive_deed K)
  m_Office_receive_notice : Meth K (cOffice K) "_receive_notice" (fOffice_receive_notice K)
  m_Office_receive_claim : Meth K (cOffice K) "_receive_claim" (fOffice_receive_claim K)
  n_World_net : NoAttr K (cWorld K) "net"
  n_World__offices : NoAttr K (cWorld K) "_offices"
  m_World_names : Meth K (cWorld K) "names" (fWorld_names K)
  m_World_office : Meth K (cWorld K) "office" (fWorld_office K)
  m_World_create : Meth K (cWorld K) "create" (fWorld_create K)
  m_World_give : Meth K (cWorld K) "give" (fWorld_give K)
  m_World_split : Meth K (cWorld K) "split" (fWorld_split K)
  m_World_join : Meth K (cWorld K) "join" (fWorld_join K)
  m_World_use : Meth K (cWorld K) "use" (fWorld_use K)
  m_World_recall : Meth K (cWorld K) "recall" (fWorld_recall K)
  m_World_tick : Meth K (cWorld K) "tick" (fWorld_tick K)
  m_World_deliver : Meth K (cWorld K) "deliver" (fWorld_deliver K)
  m_World_cut : Meth K (cWorld K) "cut" (fWorld_cut K)
  m_World_calm : Meth K (cWorld K) "calm" (fWorld_calm K)
  m_World_waits : Meth K (cWorld K) "_waits" (fWorld_waits K)
  m_World_send : Meth K (cWorld K) "_send" (fWorld_send K)
  g_HeldError : mg "HeldError" = some (.ref (xHeldError K))
  x_HeldError : PySem.W.excIn K (xHeldError K) He.veBase "ValueError.__new__" = true ∧ PySem.W.keepIn K (.ref (xHeldError K)) = true ∧ PySem.W.subIn K (.ref (xHeldError K)) (.type "BaseException") = some true ∧ PySem.W.typeIn K (.ref (xHeldError K)) = some (.type "type")
  e_HeldError : PySem.W.exmOne K (.ref (xHeldError K)) (.ref (xHeldError K)) = some true
  g_NotHeld : mg "NotHeld" = some (.ref (xNotHeld K))
  x_NotHeld : PySem.W.excIn K (xNotHeld K) He.veBase "ValueError.__new__" = true ∧ PySem.W.keepIn K (.ref (xNotHeld K)) = true ∧ PySem.W.subIn K (.ref (xNotHeld K)) (.type "BaseException") = some true ∧ PySem.W.typeIn K (.ref (xNotHeld K)) = some (.type "type")
  e_NotHeld : PySem.W.exmOne K (.ref (xNotHeld K)) (.ref (xHeldError K)) = some true
  g_Frozen : mg "Frozen" = some (.ref (xFrozen K))
  x_Frozen : PySem.W.excIn K (xFrozen K) He.veBase "ValueError.__new__" = true ∧ PySem.W.keepIn K (.ref (xFrozen K)) = true ∧ PySem.W.subIn K (.ref (xFrozen K)) (.type "BaseException") = some true ∧ PySem.W.typeIn K (.ref (xFrozen K)) = some (.type "type")
  e_Frozen : PySem.W.exmOne K (.ref (xFrozen K)) (.ref (xHeldError K)) = some true
  g_UnknownThing : mg "UnknownThing" = some (.ref (xUnknownThing K))
  x_UnknownThing : PySem.W.excIn K (xUnknownThing K) He.veBase "ValueError.__new__" = true ∧ PySem.W.keepIn K (.ref (xUnknownThing K)) = true ∧ PySem.W.subIn K (.ref (xUnknownThing K)) (.type "BaseException") = some true ∧ PySem.W.typeIn K (.ref (xUnknownThing K)) = some (.type "type")
  e_UnknownThing : PySem.W.exmOne K (.ref (xUnknownThing K)) (.ref (xHeldError K)) = some true
  g_InvalidQuantity : mg "InvalidQuantity" = some (.ref (xInvalidQuantity K))
  x_InvalidQuantity : PySem.W.excIn K (xInvalidQuantity K) He.veBase "ValueError.__new__" = true ∧ PySem.W.keepIn K (.ref (xInvalidQuantity K)) = true ∧ PySem.W.subIn K (.ref (xInvalidQuantity K)) (.type "BaseException") = some true ∧ PySem.W.typeIn K (.ref (xInvalidQuantity K)) = some (.type "type")
  e_InvalidQuantity : PySem.W.exmOne K (.ref (xInvalidQuantity K)) (.ref (xHeldError K)) = some true
  g_InvalidOffice : mg "InvalidOffice" = some (.ref (xInvalidOffice K))
  x_InvalidOffice : PySem.W.excIn K (xInvalidOffice K) He.veBase "ValueError.__new__" = true ∧ PySem.W.keepIn K (.ref (xInvalidOffice K)) = true ∧ PySem.W.subIn K (.ref (xInvalidOffice K)) (.type "BaseException") = some true ∧ PySem.W.typeIn K (.ref (xInvalidOffice K)) = some (.type "type")
  e_InvalidOffice : PySem.W.exmOne K (.ref (xInvalidOffice K)) (.ref (xHeldError K)) = some true
  g_InvalidThings : mg "InvalidThings" = some (.ref (xInvalidThings K))
  x_InvalidThings : PySem.W.excIn K (xInvalidThings K) He.veBase "ValueError.__new__" = true ∧ PySem.W.keepIn K (.ref (xInvalidThings K)) = true ∧ PySem.W.subIn K (.ref (xInvalidThings K)) (.type "BaseException") = some true ∧ PySem.W.typeIn K (.ref (xInvalidThings K)) = some (.type "type")
  e_InvalidThings : PySem.W.exmOne K (.ref (xInvalidThings K)) (.ref (xHeldError K)) = some true
  g_NoLetter : mg "NoLetter" = some (.ref (xNoLetter K))
  x_NoLetter : PySem.W.excIn K (xNoLetter K) He.veBase "ValueError.__new__" = true ∧ PySem.W.keepIn K (.ref (xNoLetter K)) = true ∧ PySem.W.subIn K (.ref (xNoLetter K)) (.type "BaseException") = some true ∧ PySem.W.typeIn K (.ref (xNoLetter K)) = some (.type "type")
  e_NoLetter : PySem.W.exmOne K (.ref (xNoLetter K)) (.ref (xHeldError K)) = some true
  b_len : mg "len" = none
  b_range : mg "range" = none
  b_str : mg "str" = none
  b_int : mg "int" = none
  b_bool : mg "bool" = none
  b_isinstance : mg "isinstance" = none
  b_sorted : mg "sorted" = none
  b_enumerate : mg "enumerate" = none
  b_zip : mg "zip" = none
  b_list : mg "list" = none
  b_tuple : mg "tuple" = none
  b_sum : mg "sum" = none
  b_max : mg "max" = none
  b_min : mg "min" = none
  i_MOST : ∃ t, mg "MOST" = some (.int 1000000000 t)
  s_LETTERS : ∃ t, mg "LETTERS" = some (.str "abcdefghijklmnopqrstuvwxyz" t)
  d_is_office : ∃ fd, FnP K "is_office" "is_office" s_is_office [] (f_is_office K) fd
  d_id_of : ∃ fd, FnP K "id_of" "id_of" s_id_of [] (f_id_of K) fd
  d_format_line : ∃ fd, FnP K "format_line" "format_line" s_format_line [] (f_format_line K) fd
  d_whole_lines : ∃ fd, FnP K "whole_lines" "whole_lines" s_whole_lines [] (f_whole_lines K) fd
  d_parse_journal : ∃ fd, FnP K "parse_journal" "parse_journal" s_parse_journal [] (f_parse_journal K) fd
  d_check_quantity : ∃ fd, FnP K "check_quantity" "check_quantity" s_check_quantity [] (f_check_quantity K) fd
  d_law_names : ∃ fd, FnP K "_law_names" "_law_names" s_law_names [] (f_law_names K) fd
  d_law_holder : ∃ fd, FnP K "_law_holder" "_law_holder" s_law_holder [] (f_law_holder K) fd
  d_law_sizes : ∃ fd, FnP K "_law_sizes" "_law_sizes" s_law_sizes [] (f_law_sizes K) fd
  d_law_joined : ∃ fd, FnP K "_law_joined" "_law_joined" s_law_joined [] (f_law_joined K) fd
  d_law_net : ∃ fd, FnP K "_law_net" "_law_net" s_law_net [] (f_law_net K) fd
  d_law_step : ∃ fd, FnP K "_law_step" "_law_step" s_law_step [] (f_law_step K) fd
  d_law_try : ∃ fd, FnP K "_law_try" "_law_try" s_law_try [] (f_law_try K) fd
  d_law_users : ∃ fd, FnP K "_law_users" "_law_users" s_law_users [] (f_law_users K) fd
  d_law_payments : ∃ fd, FnP K "_law_payments" "_law_payments" s_law_payments [] (f_law_payments K) fd
  d_law_right : ∃ fd, FnP K "_law_right" "_law_right" s_law_right [] (f_law_right K) fd
  d_law : ∃ fd, FnP K "law" "law" s_law [] (f_law K) fd
  dNet_init : ∃ fd, FnP K "__init__" "Net.__init__" sNet_init [] (fNet_init K) fd
  dNet_letters : ∃ fd, FnP K "letters" "Net.letters" sNet_letters [] (fNet_letters K) fd
  dNet_send : ∃ fd, FnP K "send" "Net.send" sNet_send [] (fNet_send K) fd
  dNet_take : ∃ fd, FnP K "take" "Net.take" sNet_take [] (fNet_take K) fd
  dNet_double : ∃ fd, FnP K "double" "Net.double" sNet_double [] (fNet_double K) fd
  dNet_at : ∃ fd, FnP K "_at" "Net._at" sNet_at [] (fNet_at K) fd
  dEntry_init : ∃ fd, FnP K "__init__" "Entry.__init__" sEntry_init [] (fEntry_init K) fd
  dEntry_begin : ∃ fd, FnP K "begin" "Entry.begin" sEntry_begin [] (fEntry_begin K) fd
  dEntry_is_free : ∃ fd, FnP K "is_free" "Entry.is_free" sEntry_is_free [] (fEntry_is_free K) fd
  dEntry_told : ∃ fd, FnP K "told" "Entry.told" sEntry_told [] (fEntry_told K) fd
  dBook_init : ∃ fd, FnP K "__init__" "Book.__init__" sBook_init [] (fBook_init K) fd
  dBook_entry : ∃ fd, FnP K "entry" "Book.entry" sBook_entry [] (fBook_entry K) fd
  dBook_is_free : ∃ fd, FnP K "is_free" "Book.is_free" sBook_is_free [] (fBook_is_free K) fd
  dBook_new_ids : ∃ fd, FnP K "new_ids" "Book.new_ids" sBook_new_ids [] (fBook_new_ids K) fd
  dBook_fits : ∃ fd, FnP K "fits" "Book.fits" sBook_fits [] (fBook_fits K) fd
  dBook_fits_got : ∃ fd, FnP K "_fits_got" "Book._fits_got" sBook_fits_got [] (fBook_fits_got K) fd
  dBook_fits_split : ∃ fd, FnP K "_fits_split" "Book._fits_split" sBook_fits_split [] (fBook_fits_split K) fd
  dBook_fits_join : ∃ fd, FnP K "_fits_join" "Book._fits_join" sBook_fits_join [] (fBook_fits_join K) fd
  dBook_fits_answer : ∃ fd, FnP K "_fits_answer" "Book._fits_answer" sBook_fits_answer [] (fBook_fits_answer K) fd
  dBook_apply : ∃ fd, FnP K "apply" "Book.apply" sBook_apply [] (fBook_apply K) fd
  dBook_begin : ∃ fd, FnP K "_begin" "Book._begin" sBook_begin [] (fBook_begin K) fd
  dBook_give : ∃ fd, FnP K "_give" "Book._give" sBook_give [] (fBook_give K) fd
  dBook_got : ∃ fd, FnP K "_got" "Book._got" sBook_got [] (fBook_got K) fd
  dBook_split : ∃ fd, FnP K "_split" "Book._split" sBook_split [] (fBook_split K) fd
  dBook_join : ∃ fd, FnP K "_join" "Book._join" sBook_join [] (fBook_join K) fd
  dBook_mark : ∃ fd, FnP K "_mark" "Book._mark" sBook_mark [] (fBook_mark K) fd
  dBook_answer : ∃ fd, FnP K "_answer" "Book._answer" sBook_answer [] (fBook_answer K) fd
  dOffice_init : ∃ fd, FnP K "__init__" "Office.__init__" sOffice_init [.str ""] (fOffice_init K) fd
  dOffice_journal : ∃ fd, FnP K "journal" "Office.journal" sOffice_journal [] (fOffice_journal K) fd
  dOffice_entry : ∃ fd, FnP K "entry" "Office.entry" sOffice_entry [] (fOffice_entry K) fd
  dOffice_known : ∃ fd, FnP K "known" "Office.known" sOffice_known [] (fOffice_known K) fd
  dOffice_held : ∃ fd, FnP K "held" "Office.held" sOffice_held [] (fOffice_held K) fd
  dOffice_payments : ∃ fd, FnP K "payments" "Office.payments" sOffice_payments [] (fOffice_payments K) fd
  dOffice_credit : ∃ fd, FnP K "credit" "Office.credit" sOffice_credit [] (fOffice_credit K) fd
  dOffice_create : ∃ fd, FnP K "create" "Office.create" sOffice_create [] (fOffice_create K) fd
  dOffice_give : ∃ fd, FnP K "give" "Office.give" sOffice_give [] (fOffice_give K) fd
  dOffice_split : ∃ fd, FnP K "split" "Office.split" sOffice_split [] (fOffice_split K) fd
  dOffice_join : ∃ fd, FnP K "join" "Office.join" sOffice_join [] (fOffice_join K) fd
  dOffice_use : ∃ fd, FnP K "use" "Office.use" sOffice_use [] (fOffice_use K) fd
  dOffice_recall : ∃ fd, FnP K "recall" "Office.recall" sOffice_recall [] (fOffice_recall K) fd
  dOffice_pending : ∃ fd, FnP K "pending" "Office.pending" sOffice_pending [] (fOffice_pending K) fd
  dOffice_receive : ∃ fd, FnP K "receive" "Office.receive" sOffice_receive [] (fOffice_receive K) fd
  dOffice_write : ∃ fd, FnP K "_write" "Office._write" sOffice_write [] (fOffice_write K) fd
  dOffice_note : ∃ fd, FnP K "_note" "Office._note" sOffice_note [] (fOffice_note K) fd
  dOffice_free : ∃ fd, FnP K "_free" "Office._free" sOffice_free [] (fOffice_free K) fd
  dOffice_letters_of : ∃ fd, FnP K "_letters_of" "Office._letters_of" sOffice_letters_of [] (fOffice_letters_of K) fd
  dOffice_receive_deed : ∃ fd, FnP K "_receive_deed" "Office._receive_deed" sOffice_receive_deed [] (fOffice_receive_deed K) fd
  dOffice_receive_notice : ∃ fd, FnP K "_receive_notice" "Office._receive_notice" sOffice_receive_notice [] (fOffice_receive_notice K) fd
  dOffice_receive_claim : ∃ fd, FnP K "_receive_claim" "Office._receive_claim" sOffice_receive_claim [] (fOffice_receive_claim K) fd
  dWorld_init : ∃ fd, FnP K "__init__" "World.__init__" sWorld_init [] (fWorld_init K) fd
  dWorld_names : ∃ fd, FnP K "names" "World.names" sWorld_names [] (fWorld_names K) fd
  dWorld_office : ∃ fd, FnP K "office" "World.office" sWorld_office [] (fWorld_office K) fd
  dWorld_create : ∃ fd, FnP K "create" "World.create" sWorld_create [] (fWorld_create K) fd
  dWorld_give : ∃ fd, FnP K "give" "World.give" sWorld_give [] (fWorld_give K) fd
  dWorld_split : ∃ fd, FnP K "split" "World.split" sWorld_split [] (fWorld_split K) fd
  dWorld_join : ∃ fd, FnP K "join" "World.join" sWorld_join [] (fWorld_join K) fd
  dWorld_use : ∃ fd, FnP K "use" "World.use" sWorld_use [] (fWorld_use K) fd
  dWorld_recall : ∃ fd, FnP K "recall" "World.recall" sWorld_recall [] (fWorld_recall K) fd
  dWorld_tick : ∃ fd, FnP K "tick" "World.tick" sWorld_tick [] (fWorld_tick K) fd
  dWorld_deliver : ∃ fd, FnP K "deliver" "World.deliver" sWorld_deliver [] (fWorld_deliver K) fd
  dWorld_cut : ∃ fd, FnP K "cut" "World.cut" sWorld_cut [] (fWorld_cut K) fd
  dWorld_calm : ∃ fd, FnP K "calm" "World.calm" sWorld_calm [] (fWorld_calm K) fd
  dWorld_waits : ∃ fd, FnP K "_waits" "World._waits" sWorld_waits [] (fWorld_waits K) fd
  dWorld_send : ∃ fd, FnP K "_send" "World._send" sWorld_send [] (fWorld_send K) fd
theorem txt_of {K : PySem.W.Frag} {h : Heap} {mg : Str → Option Value} (X : K.In h) (G : h.Ns mainGlobals mg) (c : He.SaysD faL fnL K) : Txt K mg where
  g_is_office := He.glo_ok X G (c.fact 0 (f := .glo "is_office") rfl)
  g_id_of := He.glo_ok X G (c.fact 1 (f := .glo "id_of") rfl)
  g_format_line := He.glo_ok X G (c.fact 2 (f := .glo "format_line") rfl)
  g_whole_lines := He.glo_ok X G (c.fact 3 (f := .glo "whole_lines") rfl)
  g_parse_journal := He.glo_ok X G (c.fact 4 (f := .glo "parse_journal") rfl)
  g_check_quantity := He.glo_ok X G (c.fact 5 (f := .glo "check_quantity") rfl)
  g_law_names := He.glo_ok X G (c.fact 6 (f := .glo "_law_names") rfl)
  g_law_holder := He.glo_ok X G (c.fact 7 (f := .glo "_law_holder") rfl)
  g_law_sizes := He.glo_ok X G (c.fact 8 (f := .glo "_law_sizes") rfl)
  g_law_joined := He.glo_ok X G (c.fact 9 (f := .glo "_law_joined") rfl)
  g_law_net := He.glo_ok X G (c.fact 10 (f := .glo "_law_net") rfl)
  g_law_step := He.glo_ok X G (c.fact 11 (f := .glo "_law_step") rfl)
  g_law_try := He.glo_ok X G (c.fact 12 (f := .glo "_law_try") rfl)
  g_law_users := He.glo_ok X G (c.fact 13 (f := .glo "_law_users") rfl)
  g_law_payments := He.glo_ok X G (c.fact 14 (f := .glo "_law_payments") rfl)
  g_law_right := He.glo_ok X G (c.fact 15 (f := .glo "_law_right") rfl)
  g_law := He.glo_ok X G (c.fact 16 (f := .glo "law") rfl)
  g_Net := He.glo_ok X G (c.fact 17 (f := .glo "Net") rfl)
  cl_Net := He.cls_ok (c.fact 18 (f := .cls "Net") rfl)
  mk_Net := He.mkr_ok (c.fact 19 (f := .mkr "Net") rfl)
  g_Entry := He.glo_ok X G (c.fact 20 (f := .glo "Entry") rfl)
  cl_Entry := He.cls_ok (c.fact 21 (f := .cls "Entry") rfl)
  mk_Entry := He.mkr_ok (c.fact 22 (f := .mkr "Entry") rfl)
  g_Book := He.glo_ok X G (c.fact 23 (f := .glo "Book") rfl)
  cl_Book := He.cls_ok (c.fact 24 (f := .cls "Book") rfl)
  mk_Book := He.mkr_ok (c.fact 25 (f := .mkr "Book") rfl)
  g_Office := He.glo_ok X G (c.fact 26 (f := .glo "Office") rfl)
  cl_Office := He.cls_ok (c.fact 27 (f := .cls "Office") rfl)
  mk_Office := He.mkr_ok (c.fact 28 (f := .mkr "Office") rfl)
  g_World := He.glo_ok X G (c.fact 29 (f := .glo "World") rfl)
  cl_World := He.cls_ok (c.fact 30 (f := .cls "World") rfl)
  mk_World := He.mkr_ok (c.fact 31 (f := .mkr "World") rfl)
  n_Net__letters := He.noat_ok (c.fact 32 (f := .noat "Net" "_letters") rfl)
  m_Net_letters := He.meth_ok (c.fact 33 (f := .meth "Net" "letters") rfl)
  m_Net_send := He.meth_ok (c.fact 34 (f := .meth "Net" "send") rfl)
  m_Net_take := He.meth_ok (c.fact 35 (f := .meth "Net" "take") rfl)
  m_Net_double := He.meth_ok (c.fact 36 (f := .meth "Net" "double") rfl)
  m_Net_at := He.meth_ok (c.fact 37 (f := .meth "Net" "_at") rfl)
  n_Entry_thing := He.noat_ok (c.fact 38 (f := .noat "Entry" "thing") rfl)
  n_Entry_home := He.noat_ok (c.fact 39 (f := .noat "Entry" "home") rfl)
  n_Entry_quantity := He.noat_ok (c.fact 40 (f := .noat "Entry" "quantity") rfl)
  n_Entry_epoch := He.noat_ok (c.fact 41 (f := .noat "Entry" "epoch") rfl)
  n_Entry_state := He.noat_ok (c.fact 42 (f := .noat "Entry" "state") rfl)
  n_Entry_receiver := He.noat_ok (c.fact 43 (f := .noat "Entry" "receiver") rfl)
  n_Entry_children := He.noat_ok (c.fact 44 (f := .noat "Entry" "children") rfl)
  n_Entry_is_recalled := He.noat_ok (c.fact 45 (f := .noat "Entry" "is_recalled") rfl)
  n_Entry_is_received := He.noat_ok (c.fact 46 (f := .noat "Entry" "is_received") rfl)
  n_Entry_is_noted := He.noat_ok (c.fact 47 (f := .noat "Entry" "is_noted") rfl)
  n_Entry_is_paid := He.noat_ok (c.fact 48 (f := .noat "Entry" "is_paid") rfl)
  m_Entry_begin := He.meth_ok (c.fact 49 (f := .meth "Entry" "begin") rfl)
  m_Entry_is_free := He.meth_ok (c.fact 50 (f := .meth "Entry" "is_free") rfl)
  m_Entry_told := He.meth_ok (c.fact 51 (f := .meth "Entry" "told") rfl)
  n_Book_office := He.noat_ok (c.fact 52 (f := .noat "Book" "office") rfl)
  n_Book_entries := He.noat_ok (c.fact 53 (f := .noat "Book" "entries") rfl)
  n_Book_payments := He.noat_ok (c.fact 54 (f := .noat "Book" "payments") rfl)
  n_Book_credit := He.noat_ok (c.fact 55 (f := .noat "Book" "credit") rfl)
  n_Book_next_number := He.noat_ok (c.fact 56 (f := .noat "Book" "next_number") rfl)
  m_Book_entry := He.meth_ok (c.fact 57 (f := .meth "Book" "entry") rfl)
  m_Book_is_free := He.meth_ok (c.fact 58 (f := .meth "Book" "is_free") rfl)
  m_Book_new_ids := He.meth_ok (c.fact 59 (f := .meth "Book" "new_ids") rfl)
  m_Book_fits := He.meth_ok (c.fact 60 (f := .meth "Book" "fits") rfl)
  m_Book_fits_got := He.meth_ok (c.fact 61 (f := .meth "Book" "_fits_got") rfl)
  m_Book_fits_split := He.meth_ok (c.fact 62 (f := .meth "Book" "_fits_split") rfl)
  m_Book_fits_join := He.meth_ok (c.fact 63 (f := .meth "Book" "_fits_join") rfl)
  m_Book_fits_answer := He.meth_ok (c.fact 64 (f := .meth "Book" "_fits_answer") rfl)
  m_Book_apply := He.meth_ok (c.fact 65 (f := .meth "Book" "apply") rfl)
  m_Book_begin := He.meth_ok (c.fact 66 (f := .meth "Book" "_begin") rfl)
  m_Book_give := He.meth_ok (c.fact 67 (f := .meth "Book" "_give") rfl)
  m_Book_got := He.meth_ok (c.fact 68 (f := .meth "Book" "_got") rfl)
  m_Book_split := He.meth_ok (c.fact 69 (f := .meth "Book" "_split") rfl)
  m_Book_join := He.meth_ok (c.fact 70 (f := .meth "Book" "_join") rfl)
  m_Book_mark := He.meth_ok (c.fact 71 (f := .meth "Book" "_mark") rfl)
  m_Book_answer := He.meth_ok (c.fact 72 (f := .meth "Book" "_answer") rfl)
  n_Office_name := He.noat_ok (c.fact 73 (f := .noat "Office" "name") rfl)
  n_Office__book := He.noat_ok (c.fact 74 (f := .noat "Office" "_book") rfl)
  n_Office__lines := He.noat_ok (c.fact 75 (f := .noat "Office" "_lines") rfl)
  m_Office_journal := He.meth_ok (c.fact 76 (f := .meth "Office" "journal") rfl)
  m_Office_entry := He.meth_ok (c.fact 77 (f := .meth "Office" "entry") rfl)
  m_Office_known := He.meth_ok (c.fact 78 (f := .meth "Office" "known") rfl)
  m_Office_held := He.meth_ok (c.fact 79 (f := .meth "Office" "held") rfl)
  m_Office_payments := He.meth_ok (c.fact 80 (f := .meth "Office" "payments") rfl)
  m_Office_credit := He.meth_ok (c.fact 81 (f := .meth "Office" "credit") rfl)
  m_Office_create := He.meth_ok (c.fact 82 (f := .meth "Office" "create") rfl)
  m_Office_give := He.meth_ok (c.fact 83 (f := .meth "Office" "give") rfl)
  m_Office_split := He.meth_ok (c.fact 84 (f := .meth "Office" "split") rfl)
  m_Office_join := He.meth_ok (c.fact 85 (f := .meth "Office" "join") rfl)
  m_Office_use := He.meth_ok (c.fact 86 (f := .meth "Office" "use") rfl)
  m_Office_recall := He.meth_ok (c.fact 87 (f := .meth "Office" "recall") rfl)
  m_Office_pending := He.meth_ok (c.fact 88 (f := .meth "Office" "pending") rfl)
  m_Office_receive := He.meth_ok (c.fact 89 (f := .meth "Office" "receive") rfl)
  m_Office_write := He.meth_ok (c.fact 90 (f := .meth "Office" "_write") rfl)
  m_Office_note := He.meth_ok (c.fact 91 (f := .meth "Office" "_note") rfl)
  m_Office_free := He.meth_ok (c.fact 92 (f := .meth "Office" "_free") rfl)
  m_Office_letters_of := He.meth_ok (c.fact 93 (f := .meth "Office" "_letters_of") rfl)
  m_Office_receive_deed := He.meth_ok (c.fact 94 (f := .meth "Office" "_receive_deed") rfl)
  m_Office_receive_notice := He.meth_ok (c.fact 95 (f := .meth "Office" "_receive_notice") rfl)
  m_Office_receive_claim := He.meth_ok (c.fact 96 (f := .meth "Office" "_receive_claim") rfl)
  n_World_net := He.noat_ok (c.fact 97 (f := .noat "World" "net") rfl)
  n_World__offices := He.noat_ok (c.fact 98 (f := .noat "World" "_offices") rfl)
  m_World_names := He.meth_ok (c.fact 99 (f := .meth "World" "names") rfl)
  m_World_office := He.meth_ok (c.fact 100 (f := .meth "World" "office") rfl)
  m_World_create := He.meth_ok (c.fact 101 (f := .meth "World" "create") rfl)
  m_World_give := He.meth_ok (c.fact 102 (f := .meth "World" "give") rfl)
  m_World_split := He.meth_ok (c.fact 103 (f := .meth "World" "split") rfl)
  m_World_join := He.meth_ok (c.fact 104 (f := .meth "World" "join") rfl)
  m_World_use := He.meth_ok (c.fact 105 (f := .meth "World" "use") rfl)
  m_World_recall := He.meth_ok (c.fact 106 (f := .meth "World" "recall") rfl)
  m_World_tick := He.meth_ok (c.fact 107 (f := .meth "World" "tick") rfl)
  m_World_deliver := He.meth_ok (c.fact 108 (f := .meth "World" "deliver") rfl)
  m_World_cut := He.meth_ok (c.fact 109 (f := .meth "World" "cut") rfl)
  m_World_calm := He.meth_ok (c.fact 110 (f := .meth "World" "calm") rfl)
  m_World_waits := He.meth_ok (c.fact 111 (f := .meth "World" "_waits") rfl)
  m_World_send := He.meth_ok (c.fact 112 (f := .meth "World" "_send") rfl)
  g_HeldError := He.glo_ok X G (c.fact 113 (f := .glo "HeldError") rfl)
  x_HeldError := He.exc_ok (c.fact 114 (f := .exc "HeldError") rfl)
  e_HeldError := He.exm_ok (c.fact 115 (f := .exm "HeldError" "HeldError" true) rfl)
  g_NotHeld := He.glo_ok X G (c.fact 116 (f := .glo "NotHeld") rfl)
  x_NotHeld := He.exc_ok (c.fact 117 (f := .exc "NotHeld") rfl)
  e_NotHeld := He.exm_ok (c.fact 118 (f := .exm "NotHeld" "HeldError" true) rfl)
  g_Frozen := He.glo_ok X G (c.fact 119 (f := .glo "Frozen") rfl)
  x_Frozen := He.exc_ok (c.fact 120 (f := .exc "Frozen") rfl)
  e_Frozen := He.exm_ok (c.fact 121 (f := .exm "Frozen" "HeldError" true) rfl)
  g_UnknownThing := He.glo_ok X G (c.fact 122 (f := .glo "UnknownThing") rfl)
  x_UnknownThing := He.exc_ok (c.fact 123 (f := .exc "UnknownThing") rfl)
  e_UnknownThing := He.exm_ok (c.fact 124 (f := .exm "UnknownThing" "HeldError" true) rfl)
  g_InvalidQuantity := He.glo_ok X G (c.fact 125 (f := .glo "InvalidQuantity") rfl)
  x_InvalidQuantity := He.exc_ok (c.fact 126 (f := .exc "InvalidQuantity") rfl)
  e_InvalidQuantity := He.exm_ok (c.fact 127 (f := .exm "InvalidQuantity" "HeldError" true) rfl)
  g_InvalidOffice := He.glo_ok X G (c.fact 128 (f := .glo "InvalidOffice") rfl)
  x_InvalidOffice := He.exc_ok (c.fact 129 (f := .exc "InvalidOffice") rfl)
  e_InvalidOffice := He.exm_ok (c.fact 130 (f := .exm "InvalidOffice" "HeldError" true) rfl)
  g_InvalidThings := He.glo_ok X G (c.fact 131 (f := .glo "InvalidThings") rfl)
  x_InvalidThings := He.exc_ok (c.fact 132 (f := .exc "InvalidThings") rfl)
  e_InvalidThings := He.exm_ok (c.fact 133 (f := .exm "InvalidThings" "HeldError" true) rfl)
  g_NoLetter := He.glo_ok X G (c.fact 134 (f := .glo "NoLetter") rfl)
  x_NoLetter := He.exc_ok (c.fact 135 (f := .exc "NoLetter") rfl)
  e_NoLetter := He.exm_ok (c.fact 136 (f := .exm "NoLetter" "HeldError" true) rfl)
  b_len := He.free_ok X G (c.fact 137 (f := .free "len") rfl)
  b_range := He.free_ok X G (c.fact 138 (f := .free "range") rfl)
  b_str := He.free_ok X G (c.fact 139 (f := .free "str") rfl)
  b_int := He.free_ok X G (c.fact 140 (f := .free "int") rfl)
  b_bool := He.free_ok X G (c.fact 141 (f := .free "bool") rfl)
  b_isinstance := He.free_ok X G (c.fact 142 (f := .free "isinstance") rfl)
  b_sorted := He.free_ok X G (c.fact 143 (f := .free "sorted") rfl)
  b_enumerate := He.free_ok X G (c.fact 144 (f := .free "enumerate") rfl)
  b_zip := He.free_ok X G (c.fact 145 (f := .free "zip") rfl)
  b_list := He.free_ok X G (c.fact 146 (f := .free "list") rfl)
  b_tuple := He.free_ok X G (c.fact 147 (f := .free "tuple") rfl)
  b_sum := He.free_ok X G (c.fact 148 (f := .free "sum") rfl)
  b_max := He.free_ok X G (c.fact 149 (f := .free "max") rfl)
  b_min := He.free_ok X G (c.fact 150 (f := .free "min") rfl)
  i_MOST := He.int_ok X G (c.fact 151 (f := .int "MOST" 1000000000) rfl)
  s_LETTERS := He.str_ok X G (c.fact 152 (f := .str "LETTERS" "abcdefghijklmnopqrstuvwxyz") rfl)
  d_is_office := c.def_ 0 (d := d_is_office) rfl
  d_id_of := c.def_ 1 (d := d_id_of) rfl
  d_format_line := c.def_ 2 (d := d_format_line) rfl
  d_whole_lines := c.def_ 3 (d := d_whole_lines) rfl
  d_parse_journal := c.def_ 4 (d := d_parse_journal) rfl
  d_check_quantity := c.def_ 5 (d := d_check_quantity) rfl
  d_law_names := c.def_ 6 (d := d_law_names) rfl
  d_law_holder := c.def_ 7 (d := d_law_holder) rfl
  d_law_sizes := c.def_ 8 (d := d_law_sizes) rfl
  d_law_joined := c.def_ 9 (d := d_law_joined) rfl
  d_law_net := c.def_ 10 (d := d_law_net) rfl
  d_law_step := c.def_ 11 (d := d_law_step) rfl
  d_law_try := c.def_ 12 (d := d_law_try) rfl
  d_law_users := c.def_ 13 (d := d_law_users) rfl
  d_law_payments := c.def_ 14 (d := d_law_payments) rfl
  d_law_right := c.def_ 15 (d := d_law_right) rfl
  d_law := c.def_ 16 (d := d_law) rfl
  dNet_init := c.def_ 17 (d := dNet_init) rfl
  dNet_letters := c.def_ 18 (d := dNet_letters) rfl
  dNet_send := c.def_ 19 (d := dNet_send) rfl
  dNet_take := c.def_ 20 (d := dNet_take) rfl
  dNet_double := c.def_ 21 (d := dNet_double) rfl
  dNet_at := c.def_ 22 (d := dNet_at) rfl
  dEntry_init := c.def_ 23 (d := dEntry_init) rfl
  dEntry_begin := c.def_ 24 (d := dEntry_begin) rfl
  dEntry_is_free := c.def_ 25 (d := dEntry_is_free) rfl
  dEntry_told := c.def_ 26 (d := dEntry_told) rfl
  dBook_init := c.def_ 27 (d := dBook_init) rfl
  dBook_entry := c.def_ 28 (d := dBook_entry) rfl
  dBook_is_free := c.def_ 29 (d := dBook_is_free) rfl
  dBook_new_ids := c.def_ 30 (d := dBook_new_ids) rfl
  dBook_fits := c.def_ 31 (d := dBook_fits) rfl
  dBook_fits_got := c.def_ 32 (d := dBook_fits_got) rfl
  dBook_fits_split := c.def_ 33 (d := dBook_fits_split) rfl
  dBook_fits_join := c.def_ 34 (d := dBook_fits_join) rfl
  dBook_fits_answer := c.def_ 35 (d := dBook_fits_answer) rfl
  dBook_apply := c.def_ 36 (d := dBook_apply) rfl
  dBook_begin := c.def_ 37 (d := dBook_begin) rfl
  dBook_give := c.def_ 38 (d := dBook_give) rfl
  dBook_got := c.def_ 39 (d := dBook_got) rfl
  dBook_split := c.def_ 40 (d := dBook_split) rfl
  dBook_join := c.def_ 41 (d := dBook_join) rfl
  dBook_mark := c.def_ 42 (d := dBook_mark) rfl
  dBook_answer := c.def_ 43 (d := dBook_answer) rfl
  dOffice_init := c.def_ 44 (d := dOffice_init) rfl
  dOffice_journal := c.def_ 45 (d := dOffice_journal) rfl
  dOffice_entry := c.def_ 46 (d := dOffice_entry) rfl
  dOffice_known := c.def_ 47 (d := dOffice_known) rfl
  dOffice_held := c.def_ 48 (d := dOffice_held) rfl
  dOffice_payments := c.def_ 49 (d := dOffice_payments) rfl
  dOffice_credit := c.def_ 50 (d := dOffice_credit) rfl
  dOffice_create := c.def_ 51 (d := dOffice_create) rfl
  dOffice_give := c.def_ 52 (d := dOffice_give) rfl
  dOffice_split := c.def_ 53 (d := dOffice_split) rfl
  dOffice_join := c.def_ 54 (d := dOffice_join) rfl
  dOffice_use := c.def_ 55 (d := dOffice_use) rfl
  dOffice_recall := c.def_ 56 (d := dOffice_recall) rfl
  dOffice_pending := c.def_ 57 (d := dOffice_pending) rfl
  dOffice_receive := c.def_ 58 (d := dOffice_receive) rfl
  dOffice_write := c.def_ 59 (d := dOffice_write) rfl
  dOffice_note := c.def_ 60 (d := dOffice_note) rfl
  dOffice_free := c.def_ 61 (d := dOffice_free) rfl
  dOffice_letters_of := c.def_ 62 (d := dOffice_letters_of) rfl
  dOffice_receive_deed := c.def_ 63 (d := dOffice_receive_deed) rfl
  dOffice_receive_notice := c.def_ 64 (d := dOffice_receive_notice) rfl
  dOffice_receive_claim := c.def_ 65 (d := dOffice_receive_claim) rfl
  dWorld_init := c.def_ 66 (d := dWorld_init) rfl
  dWorld_names := c.def_ 67 (d := dWorld_names) rfl
  dWorld_office := c.def_ 68 (d := dWorld_office) rfl
  dWorld_create := c.def_ 69 (d := dWorld_create) rfl
  dWorld_give := c.def_ 70 (d := dWorld_give) rfl
  dWorld_split := c.def_ 71 (d := dWorld_split) rfl
  dWorld_join := c.def_ 72 (d := dWorld_join) rfl
  dWorld_use := c.def_ 73 (d := dWorld_use) rfl
  dWorld_recall := c.def_ 74 (d := dWorld_recall) rfl
  dWorld_tick := c.def_ 75 (d := dWorld_tick) rfl
  dWorld_deliver := c.def_ 76 (d := dWorld_deliver) rfl
  dWorld_cut := c.def_ 77 (d := dWorld_cut) rfl
  dWorld_calm := c.def_ 78 (d := dWorld_calm) rfl
  dWorld_waits := c.def_ 79 (d := dWorld_waits) rfl
  dWorld_send := c.def_ 80 (d := dWorld_send) rfl
/-- a def stands and keeps its promise -/
def Has (P : Program) (w : World) (K : PySem.W.Frag) (mg : Str → Option Value) (base : Heap) (CX : CXT) (k : Nat) (f : Addr) (ps : List Str) (sp : Sp) : Prop :=
  ∃ fd, FnOk P w K mg base CX k f fd ps sp ∧ Binds K fd ps []
end LH
namespace LH
open PySem PySem.Spec PyProof.Rows L2
/-! ### the plain state -/
inductive Stt where
  | unk | held | given | used | split | joined
  deriving DecidableEq
def Stt.str : Stt → Str
  | .unk => "unknown"
  | .held => "held"
  | .given => "given"
  | .used => "used"
  | .split => "split"
  | .joined => "joined"
/-- what a book says about one thing -/
structure Ent where
  home : Option Str
  qty : Int
  ep : Int
  st : Stt
  rcv : Option Str
  ch : List Str
  cb : Bool
  rd : Bool
  nt : Bool
  pd : Bool
def Ent.new : Ent := ⟨none, 0, 0, .unk, none, [], false, false, false, false⟩
/-- an office -/
structure OSt where
  name : Str
  es : List (Str × Ent)
  ps : List (Str × Str × Int)
  cr : Int
  nx : Int
  ln : Nat
section
variable {α : Type}
def gt (l : List (Str × α)) (t : Str) : Option α := (l.find? fun p => decide (p.1 = t)).map (·.2)
def md (l : List (Str × α)) (t : Str) (f : α → α) : List (Str × α) := l.map fun p => if p.1 = t then (p.1, f p.2) else p
theorem gt_nil {t : Str} : gt ([] : List (Str × α)) t = none := rfl
theorem gt_pos {p : Str × α} {r : List (Str × α)} {t : Str} (e : p.1 = t) : gt (p :: r) t = some p.2 := by simp [gt, List.find?_cons, e]
theorem gt_neg {p : Str × α} {r : List (Str × α)} {t : Str} (e : ¬ p.1 = t) : gt (p :: r) t = gt r t := by simp [gt, List.find?_cons, e]
theorem gt_mem : ∀ {l : List (Str × α)} {t : Str} {e : α}, gt l t = some e → (t, e) ∈ l
  | [], t, e, h => by cases h
  | p :: r, t, e, h => by
    by_cases q : p.1 = t
    · rw [gt_pos q] at h
      injection h with h
      subst h
      subst q
      exact List.mem_cons_self
    · rw [gt_neg q] at h
      exact List.mem_cons_of_mem _ (gt_mem h)
theorem gt_key : ∀ {l : List (Str × α)} {t : Str}, t ∈ l.map (·.1) → ∃ e, gt l t = some e
  | [], t, h => by cases h
  | p :: r, t, h => by
    by_cases q : p.1 = t
    · exact ⟨_, gt_pos q⟩
    · rw [List.map_cons, List.mem_cons] at h
      rcases h with h | h
      · exact absurd h.symm q
      · rw [gt_neg q]
        exact gt_key h
theorem key_of {l : List (Str × α)} {t : Str} {e : α} (h : gt l t = some e) : t ∈ l.map (·.1) := List.mem_map.mpr ⟨_, gt_mem h, rfl⟩
theorem gt_none {l : List (Str × α)} {t : Str} (h : ¬ t ∈ l.map (·.1)) : gt l t = none := by
  cases e : gt l t with
  | none => rfl
  | some x => exact absurd (key_of e) h
theorem none_key {l : List (Str × α)} {t : Str} (h : gt l t = none) : ¬ t ∈ l.map (·.1) := fun m => by
  obtain ⟨e, q⟩ := gt_key m
  rw [h] at q
  cases q
theorem mem_gt : ∀ {l : List (Str × α)} {t : Str} {e : α}, (l.map (·.1)).Nodup → (t, e) ∈ l → gt l t = some e
  | [], t, e, _, h => by cases h
  | p :: r, t, e, nd, h => by
    rw [List.map_cons, List.nodup_cons] at nd
    rcases List.mem_cons.mp h with h | h
    · subst h
      exact gt_pos rfl
    · have q : ¬ p.1 = t := fun z => nd.1 (by rw [z]; exact List.mem_map.mpr ⟨_, h, rfl⟩)
      rw [gt_neg q]
      exact mem_gt nd.2 h
theorem md_keys (l : List (Str × α)) (t : Str) (f : α → α) : (md l t f).map (·.1) = l.map (·.1) := by
  unfold md
  rw [List.map_map]
  refine List.map_congr_left fun p _ => ?_
  show (if p.1 = t then (p.1, f p.2) else p).1 = p.1
  by_cases q : p.1 = t
  · rw [if_pos q]
  · rw [if_neg q]
theorem gt_md (f : α → α) (t u : Str) : ∀ l : List (Str × α), gt (md l t f) u = (gt l u).map fun x => if u = t then f x else x
  | [] => rfl
  | p :: r => by
    have ih := gt_md f t u r
    have e : md (p :: r) t f = (if p.1 = t then (p.1, f p.2) else p) :: md r t f := rfl
    rw [e]
    by_cases q : p.1 = t
    · rw [if_pos q]
      by_cases z : p.1 = u
      · rw [gt_pos (p := (p.1, f p.2)) z, gt_pos z]
        have z2 : u = t := z.symm.trans q
        simp [z2]
      · rw [gt_neg (p := (p.1, f p.2)) z, gt_neg z, ih]
    · rw [if_neg q]
      by_cases z : p.1 = u
      · have z2 : ¬ u = t := fun e => q (z.trans e)
        rw [gt_pos z, gt_pos z]
        simp [z2]
      · rw [gt_neg z, gt_neg z, ih]
theorem gt_snoc (t u : Str) (e : α) : ∀ l : List (Str × α), gt l t = none → gt (l ++ [(t, e)]) u = if u = t then some e else gt l u
  | [], _ => by
    show gt [(t, e)] u = _
    by_cases q : t = u
    · rw [gt_pos (p := (t, e)) q, if_pos q.symm]
    · rw [gt_neg (p := (t, e)) q, if_neg fun z => q z.symm]
  | p :: r, h => by
    have e1 : (p :: r) ++ [(t, e)] = p :: (r ++ [(t, e)]) := rfl
    rw [e1]
    by_cases z : p.1 = t
    · rw [gt_pos z] at h
      cases h
    · rw [gt_neg z] at h
      have ih := gt_snoc t u e r h
      by_cases q : p.1 = u
      · rw [gt_pos q, gt_pos q, if_neg fun w => z (q.trans w)]
      · rw [gt_neg q, gt_neg q, ih]
end
def OSt.get (S : OSt) (t : Str) : Option Ent := gt S.es t
def OSt.mod (S : OSt) (t : Str) (f : Ent → Ent) : OSt := { S with es := md S.es t f }
def OSt.add (S : OSt) (t : Str) (e : Ent) : OSt := { S with es := S.es ++ [(t, e)] }
/-! ### letters, lines -/
inductive Ltr where
  | deed (s r t h : Str) (q n : Int)
  | receipt (s r t : Str) (n : Int)
  | notice (s r t : Str)
  | noted (s r t : Str)
  | claim (s r t : Str) (q : Int)
  | paid (s r t : Str) (q : Int)
  deriving DecidableEq
def Ltr.enc : Ltr → List V
  | .deed s r t h q n => [.str "deed", .str s, .str r, .str t, .str h, .int q, .int n]
  | .receipt s r t n => [.str "receipt", .str s, .str r, .str t, .int n]
  | .notice s r t => [.str "notice", .str s, .str r, .str t]
  | .noted s r t => [.str "noted", .str s, .str r, .str t]
  | .claim s r t q => [.str "claim", .str s, .str r, .str t, .int q]
  | .paid s r t q => [.str "paid", .str s, .str r, .str t, .int q]
def Ltr.snd : Ltr → Str
  | .deed s _ _ _ _ _ | .receipt s _ _ _ | .notice s _ _ | .noted s _ _ | .claim s _ _ _ | .paid s _ _ _ => s
def Ltr.rcv : Ltr → Str
  | .deed _ r _ _ _ _ | .receipt _ r _ _ | .notice _ r _ | .noted _ r _ | .claim _ r _ _ | .paid _ r _ _ => r
def Ltr.th : Ltr → Str
  | .deed _ _ t _ _ _ | .receipt _ _ t _ | .notice _ _ t | .noted _ _ t | .claim _ _ t _ | .paid _ _ t _ => t
/-- the letters about a thing that wait for an answer, at the office o -/
def letOf (o t : Str) (e : Ent) : List Ltr :=
  (if e.st = .given then (if e.rd = false then [.deed o (e.rcv.getD "") t (e.home.getD "") e.qty e.ep] else []) ++ (if e.cb = true ∧ e.nt = false then [.notice o (e.rcv.getD "") t] else []) else []) ++
  (if e.st = .used ∧ e.pd = false then [.claim o (e.home.getD "") t e.qty] else [])
def OSt.pend (S : OSt) : List Ltr := S.es.flatMap fun p => letOf S.name p.1 p.2
/-! ### what the objects look like -/
def optV : Option Str → V
  | none => .non
  | some x => .str x
def entF (t : Str) (e : Ent) (c : Addr) : List (Str × V) :=
  [("thing", .str t), ("home", optV e.home), ("quantity", .int e.qty), ("epoch", .int e.ep), ("state", .str e.st.str), ("receiver", optV e.rcv), ("children", .ref c),
   ("is_recalled", .bl e.cb), ("is_received", .bl e.rd), ("is_noted", .bl e.nt), ("is_paid", .bl e.pd)]
def bokF (o : Str) (en pa : Addr) (cr nx : Int) : List (Str × V) := [("office", .str o), ("entries", .ref en), ("payments", .ref pa), ("credit", .int cr), ("next_number", .int nx)]
def offF (o : Str) (bk ln : Addr) : List (Str × V) := [("name", .str o), ("_book", .ref bk), ("_lines", .ref ln)]
def netF (l : Addr) : List (Str × V) := [("_letters", .ref l)]
def wldF (n o : Addr) : List (Str × V) := [("net", .ref n), ("_offices", .ref o)]
structure Lay where
  of : Addr
  bk : Addr
  ln : Addr
  en : Addr
  pa : Addr
  ea : Str → Addr
  ca : Str → Addr
def entKV (L : Lay) (es : List (Str × Ent)) : List (Key × V) := es.map fun p => (Sum.inr p.1, V.ref (L.ea p.1))
def payKV (pt : Str → Addr) (ps : List (Str × Str × Int)) : List (Key × V) := ps.map fun p => (Sum.inr p.1, V.ref (pt p.1))
structure OffAt (K : PySem.W.Frag) (H : Hp) (L : Lay) (S : OSt) : Prop where
  of : ∃ dx, H L.of = some (.ins (cOffice K) dx (offF S.name L.bk L.ln))
  bk : ∃ dx, H L.bk = some (.ins (cBook K) dx (bokF S.name L.en L.pa S.cr S.nx))
  ln : ∃ ls, ls.length = S.ln ∧ H L.ln = some (.lst ls)
  en : H L.en = some (.dK (entKV L S.es))
  pa : ∃ pt, H L.pa = some (.dK (payKV pt S.ps)) ∧ ∀ p ∈ S.ps, H (pt p.1) = some (.tup [.str p.2.1, .int p.2.2])
  ent : ∀ t e, (t, e) ∈ S.es → ∃ dx, H (L.ea t) = some (.ins (cEntry K) dx (entF t e (L.ca t)))
  chl : ∀ t e, (t, e) ∈ S.es → H (L.ca t) = some (.lst (e.ch.map V.str))
  nd : (S.es.map (·.1)).Nodup
  ndp : (S.ps.map (·.1)).Nodup
  cinj : ∀ t u, t ∈ S.es.map (·.1) → u ∈ S.es.map (·.1) → L.ca t = L.ca u → t = u
  cln : ∀ t, t ∈ S.es.map (·.1) → L.ca t ≠ L.ln
  enpa : L.en ≠ L.pa
/-- the objects that an office changes -/
def Foot (L : Lay) (S : OSt) (b : Addr) : Prop := b = L.of ∨ b = L.bk ∨ b = L.ln ∨ b = L.en ∨ b = L.pa ∨ ∃ t, t ∈ S.es.map (·.1) ∧ (b = L.ea t ∨ b = L.ca t)
/-- what else stood stands as it was; what is new in the footprint is new; nothing goes -/
structure Frm (H : Hp) (F : Addr → Prop) (H' : Hp) (F' : Addr → Prop) : Prop where
  keep : ∀ b o, H b = some o → ¬ F b → H' b = some o
  new : ∀ b, F' b → F b ∨ H b = none
  grow : ∀ b, H b ≠ none → H' b ≠ none
theorem Frm.refl (H : Hp) (F : Addr → Prop) : Frm H F H F := ⟨fun _ _ h _ => h, fun _ h => .inl h, fun _ h => h⟩
theorem Frm.trans {H H1 H2 : Hp} {F F1 F2 : Addr → Prop} (a : Frm H F H1 F1) (b : Frm H1 F1 H2 F2) : Frm H F H2 F2 where
  keep := fun c o h n => b.keep c o (a.keep c o h n) fun f => by
    rcases a.new c f with q | q
    · exact n q
    · rw [h] at q
      cases q
  new := fun c f => by
    rcases b.new c f with q | q
    · exact a.new c q
    · refine .inr ?_
      cases e : H c with
      | none => rfl
      | some o => exact absurd q (a.grow c (by rw [e]; intro z; cases z))
  grow := fun c h => b.grow c (a.grow c h)
/-- new objects beside -/
def Same' (H H' : Hp) : Prop := Same H H'
theorem Frm.same {H H' : Hp} (F : Addr → Prop) (s : Same H H') : Frm H F H' F := ⟨fun b o h _ => s b o h, fun _ h => .inl h, fun b h => by
  cases e : H b with
  | none => exact absurd e h
  | some o =>
    rw [s b o e]
    intro z
    cases z⟩
structure Ext (L : Lay) (S : OSt) (L' : Lay) : Prop where
  of : L'.of = L.of
  bk : L'.bk = L.bk
  ln : L'.ln = L.ln
  en : L'.en = L.en
  pa : L'.pa = L.pa
  ea : ∀ t, t ∈ S.es.map (·.1) → L'.ea t = L.ea t
  ca : ∀ t, t ∈ S.es.map (·.1) → L'.ca t = L.ca t
theorem Ext.refl (L : Lay) (S : OSt) : Ext L S L := ⟨rfl, rfl, rfl, rfl, rfl, fun _ _ => rfl, fun _ _ => rfl⟩
structure Stp (K : PySem.W.Frag) (H : Hp) (L : Lay) (S : OSt) (H' : Hp) (L' : Lay) (S' : OSt) : Prop where
  at_ : OffAt K H' L' S'
  fr : Frm H (Foot L S) H' (Foot L' S')
  ex : Ext L S L'
  ks : ∀ t, t ∈ S.es.map (·.1) → t ∈ S'.es.map (·.1)
  nm : S'.name = S.name
theorem Stp.trans {K : PySem.W.Frag} {H H1 H2 : Hp} {L L1 L2 : Lay} {S S1 S2 : OSt} (a : Stp K H L S H1 L1 S1) (b : Stp K H1 L1 S1 H2 L2 S2) : Stp K H L S H2 L2 S2 where
  at_ := b.at_
  fr := a.fr.trans b.fr
  ex := ⟨b.ex.of.trans a.ex.of, b.ex.bk.trans a.ex.bk, b.ex.ln.trans a.ex.ln, b.ex.en.trans a.ex.en, b.ex.pa.trans a.ex.pa,
    fun t h => (b.ex.ea t (a.ks t h)).trans (a.ex.ea t h), fun t h => (b.ex.ca t (a.ks t h)).trans (a.ex.ca t h)⟩
  ks := fun t h => b.ks t (a.ks t h)
  nm := b.nm.trans a.nm
theorem Stp.refl {K : PySem.W.Frag} {H : Hp} {L : Lay} {S : OSt} (h : OffAt K H L S) : Stp K H L S H L S := ⟨h, Frm.refl _ _, Ext.refl _ _, fun _ h => h, rfl⟩
section
variable {K : PySem.W.Frag} {H H' : Hp} {L : Lay} {S : OSt}
/-- fresh objects beside leave the office as it is -/
theorem OffAt.same (h : OffAt K H L S) (s : Same H H') : OffAt K H' L S where
  of := h.of.imp fun _ q => s _ _ q
  bk := h.bk.imp fun _ q => s _ _ q
  ln := h.ln.imp fun _ q => ⟨q.1, s _ _ q.2⟩
  en := s _ _ h.en
  pa := h.pa.imp fun _ q => ⟨s _ _ q.1, fun p hp => s _ _ (q.2 p hp)⟩
  ent := fun t e m => (h.ent t e m).imp fun _ q => s _ _ q
  chl := fun t e m => s _ _ (h.chl t e m)
  nd := h.nd
  ndp := h.ndp
  cinj := h.cinj
  cln := h.cln
  enpa := h.enpa
theorem Stp.same (h : OffAt K H L S) (s : Same H H') : Stp K H L S H' L S := ⟨h.same s, Frm.same _ s, Ext.refl _ _, fun _ h => h, rfl⟩
theorem Same.upd {p : Addr} {o : HO} (hp : H p = none) : Same H (upd H p o) := fun b u e => by
  rw [upd_ne (ne_of_none e hp)]
  exact e
/-- every object of the footprint is one of three kinds -/
def isMut : HO → Prop
  | .lst _ | .dK _ | .ins _ _ _ => True
  | _ => False
theorem OffAt.foot (h : OffAt K H L S) {b : Addr} (f : Foot L S b) : ∃ o, H b = some o ∧ isMut o := by
  rcases f with rfl | rfl | rfl | rfl | rfl | ⟨t, ht, rfl | rfl⟩
  · obtain ⟨dx, q⟩ := h.of
    exact ⟨_, q, trivial⟩
  · obtain ⟨dx, q⟩ := h.bk
    exact ⟨_, q, trivial⟩
  · obtain ⟨ls, _, q⟩ := h.ln
    exact ⟨_, q, trivial⟩
  · exact ⟨_, h.en, trivial⟩
  · obtain ⟨pt, q, _⟩ := h.pa
    exact ⟨_, q, trivial⟩
  · obtain ⟨e, he⟩ := gt_key ht
    obtain ⟨dx, q⟩ := h.ent t e (gt_mem he)
    exact ⟨_, q, trivial⟩
  · obtain ⟨e, he⟩ := gt_key ht
    exact ⟨_, h.chl t e (gt_mem he), trivial⟩
theorem OffAt.notup (h : OffAt K H L S) {b : Addr} {vs : List V} (q : H b = some (.tup vs)) : ¬ Foot L S b := fun f => by
  obtain ⟨o, e, m⟩ := h.foot f
  rw [q] at e
  cases e
  exact m
theorem Frm.tup {F' : Addr → Prop} (fr : Frm H (Foot L S) H' F') (h : OffAt K H L S) {b : Addr} {vs : List V} (q : H b = some (.tup vs)) : H' b = some (.tup vs) := fr.keep b _ q (h.notup q)
end
end LH
namespace LH
open PySem PySem.Spec PyProof.Rows L2
theorem lk_Net_letters (l : Addr) : (netF l).lookup ("_letters" : Str) = some (.ref l) := by kernel_rfl
theorem ln_Net_letters (l : Addr) : (netF l).lookup ("letters" : Str) = none := by kernel_rfl
theorem ln_Net_send (l : Addr) : (netF l).lookup ("send" : Str) = none := by kernel_rfl
theorem ln_Net_take (l : Addr) : (netF l).lookup ("take" : Str) = none := by kernel_rfl
theorem ln_Net_double (l : Addr) : (netF l).lookup ("double" : Str) = none := by kernel_rfl
theorem ln_Net_at (l : Addr) : (netF l).lookup ("_at" : Str) = none := by kernel_rfl
theorem lk_Entry_thing (t : Str) (e : Ent) (c : Addr) : (entF t e c).lookup ("thing" : Str) = some (.str t) := by kernel_rfl
theorem lk_Entry_home (t : Str) (e : Ent) (c : Addr) : (entF t e c).lookup ("home" : Str) = some (optV e.home) := by kernel_rfl
theorem lk_Entry_quantity (t : Str) (e : Ent) (c : Addr) : (entF t e c).lookup ("quantity" : Str) = some (.int e.qty) := by kernel_rfl
theorem lk_Entry_epoch (t : Str) (e : Ent) (c : Addr) : (entF t e c).lookup ("epoch" : Str) = some (.int e.ep) := by kernel_rfl
theorem lk_Entry_state (t : Str) (e : Ent) (c : Addr) : (entF t e c).lookup ("state" : Str) = some (.str e.st.str) := by kernel_rfl
theorem lk_Entry_receiver (t : Str) (e : Ent) (c : Addr) : (entF t e c).lookup ("receiver" : Str) = some (optV e.rcv) := by kernel_rfl
theorem lk_Entry_children (t : Str) (e : Ent) (c : Addr) : (entF t e c).lookup ("children" : Str) = some (.ref c) := by kernel_rfl
theorem lk_Entry_is_recalled (t : Str) (e : Ent) (c : Addr) : (entF t e c).lookup ("is_recalled" : Str) = some (.bl e.cb) := by kernel_rfl
theorem lk_Entry_is_received (t : Str) (e : Ent) (c : Addr) : (entF t e c).lookup ("is_received" : Str) = some (.bl e.rd) := by kernel_rfl
theorem lk_Entry_is_noted (t : Str) (e : Ent) (c : Addr) : (entF t e c).lookup ("is_noted" : Str) = some (.bl e.nt) := by kernel_rfl
theorem lk_Entry_is_paid (t : Str) (e : Ent) (c : Addr) : (entF t e c).lookup ("is_paid" : Str) = some (.bl e.pd) := by kernel_rfl
theorem ln_Entry_begin (t : Str) (e : Ent) (c : Addr) : (entF t e c).lookup ("begin" : Str) = none := by kernel_rfl
theorem ln_Entry_is_free (t : Str) (e : Ent) (c : Addr) : (entF t e c).lookup ("is_free" : Str) = none := by kernel_rfl
theorem ln_Entry_told (t : Str) (e : Ent) (c : Addr) : (entF t e c).lookup ("told" : Str) = none := by kernel_rfl
theorem lk_Book_office (o : Str) (en pa : Addr) (cr nx : Int) : (bokF o en pa cr nx).lookup ("office" : Str) = some (.str o) := by kernel_rfl
theorem lk_Book_entries (o : Str) (en pa : Addr) (cr nx : Int) : (bokF o en pa cr nx).lookup ("entries" : Str) = some (.ref en) := by kernel_rfl
theorem lk_Book_payments (o : Str) (en pa : Addr) (cr nx : Int) : (bokF o en pa cr nx).lookup ("payments" : Str) = some (.ref pa) := by kernel_rfl
theorem lk_Book_credit (o : Str) (en pa : Addr) (cr nx : Int) : (bokF o en pa cr nx).lookup ("credit" : Str) = some (.int cr) := by kernel_rfl
theorem lk_Book_next_number (o : Str) (en pa : Addr) (cr nx : Int) : (bokF o en pa cr nx).lookup ("next_number" : Str) = some (.int nx) := by kernel_rfl
theorem ln_Book_entry (o : Str) (en pa : Addr) (cr nx : Int) : (bokF o en pa cr nx).lookup ("entry" : Str) = none := by kernel_rfl
theorem ln_Book_is_free (o : Str) (en pa : Addr) (cr nx : Int) : (bokF o en pa cr nx).lookup ("is_free" : Str) = none := by kernel_rfl
theorem ln_Book_new_ids (o : Str) (en pa : Addr) (cr nx : Int) : (bokF o en pa cr nx).lookup ("new_ids" : Str) = none := by kernel_rfl
theorem ln_Book_fits (o : Str) (en pa : Addr) (cr nx : Int) : (bokF o en pa cr nx).lookup ("fits" : Str) = none := by kernel_rfl
theorem ln_Book_fits_got (o : Str) (en pa : Addr) (cr nx : Int) : (bokF o en pa cr nx).lookup ("_fits_got" : Str) = none := by kernel_rfl
theorem ln_Book_fits_split (o : Str) (en pa : Addr) (cr nx : Int) : (bokF o en pa cr nx).lookup ("_fits_split" : Str) = none := by kernel_rfl
theorem ln_Book_fits_join (o : Str) (en pa : Addr) (cr nx : Int) : (bokF o en pa cr nx).lookup ("_fits_join" : Str) = none := by kernel_rfl
theorem ln_Book_fits_answer (o : Str) (en pa : Addr) (cr nx : Int) : (bokF o en pa cr nx).lookup ("_fits_answer" : Str) = none := by kernel_rfl
theorem ln_Book_apply (o : Str) (en pa : Addr) (cr nx : Int) : (bokF o en pa cr nx).lookup ("apply" : Str) = none := by kernel_rfl
theorem ln_Book_begin (o : Str) (en pa : Addr) (cr nx : Int) : (bokF o en pa cr nx).lookup ("_begin" : Str) = none := by kernel_rfl
theorem ln_Book_give (o : Str) (en pa : Addr) (cr nx : Int) : (bokF o en pa cr nx).lookup ("_give" : Str) = none := by kernel_rfl
theorem ln_Book_got (o : Str) (en pa : Addr) (cr nx : Int) : (bokF o en pa cr nx).lookup ("_got" : Str) = none := by kernel_rfl
theorem ln_Book_split (o : Str) (en pa : Addr) (cr nx : Int) : (bokF o en pa cr nx).lookup ("_split" : Str) = none := by kernel_rfl
theorem ln_Book_join (o : Str) (en pa : Addr) (cr nx : Int) : (bokF o en pa cr nx).lookup ("_join" : Str) = none := by kernel_rfl
theorem ln_Book_mark (o : Str) (en pa : Addr) (cr nx : Int) : (bokF o en pa cr nx).lookup ("_mark" : Str) = none := by kernel_rfl
theorem ln_Book_answer (o : Str) (en pa : Addr) (cr nx : Int) : (bokF o en pa cr nx).lookup ("_answer" : Str) = none := by kernel_rfl
theorem lk_Office_name (o : Str) (bk ln : Addr) : (offF o bk ln).lookup ("name" : Str) = some (.str o) := by kernel_rfl
theorem lk_Office_book (o : Str) (bk ln : Addr) : (offF o bk ln).lookup ("_book" : Str) = some (.ref bk) := by kernel_rfl
theorem lk_Office_lines (o : Str) (bk ln : Addr) : (offF o bk ln).lookup ("_lines" : Str) = some (.ref ln) := by kernel_rfl
theorem ln_Office_journal (o : Str) (bk ln : Addr) : (offF o bk ln).lookup ("journal" : Str) = none := by kernel_rfl
theorem ln_Office_entry (o : Str) (bk ln : Addr) : (offF o bk ln).lookup ("entry" : Str) = none := by kernel_rfl
theorem ln_Office_known (o : Str) (bk ln : Addr) : (offF o bk ln).lookup ("known" : Str) = none := by kernel_rfl
theorem ln_Office_held (o : Str) (bk ln : Addr) : (offF o bk ln).lookup ("held" : Str) = none := by kernel_rfl
theorem ln_Office_payments (o : Str) (bk ln : Addr) : (offF o bk ln).lookup ("payments" : Str) = none := by kernel_rfl
theorem ln_Office_credit (o : Str) (bk ln : Addr) : (offF o bk ln).lookup ("credit" : Str) = none := by kernel_rfl
theorem ln_Office_create (o : Str) (bk ln : Addr) : (offF o bk ln).lookup ("create" : Str) = none := by kernel_rfl
theorem ln_Office_give (o : Str) (bk ln : Addr) : (offF o bk ln).lookup ("give" : Str) = none := by kernel_rfl
theorem ln_Office_split (o : Str) (bk ln : Addr) : (offF o bk ln).lookup ("split" : Str) = none := by kernel_rfl
theorem ln_Office_join (o : Str) (bk ln : Addr) : (offF o bk ln).lookup ("join" : Str) = none := by kernel_rfl
theorem ln_Office_use (o : Str) (bk ln : Addr) : (offF o bk ln).lookup ("use" : Str) = none := by kernel_rfl
theorem ln_Office_recall (o : Str) (bk ln : Addr) : (offF o bk ln).lookup ("recall" : Str) = none := by kernel_rfl
theorem ln_Office_pending (o : Str) (bk ln : Addr) : (offF o bk ln).lookup ("pending" : Str) = none := by kernel_rfl
theorem ln_Office_receive (o : Str) (bk ln : Addr) : (offF o bk ln).lookup ("receive" : Str) = none := by kernel_rfl
theorem ln_Office_write (o : Str) (bk ln : Addr) : (offF o bk ln).lookup ("_write" : Str) = none := by kernel_rfl
theorem ln_Office_note (o : Str) (bk ln : Addr) : (offF o bk ln).lookup ("_note" : Str) = none := by kernel_rfl
theorem ln_Office_free (o : Str) (bk ln : Addr) : (offF o bk ln).lookup ("_free" : Str) = none := by kernel_rfl
theorem ln_Office_letters_of (o : Str) (bk ln : Addr) : (offF o bk ln).lookup ("_letters_of" : Str) = none := by kernel_rfl
theorem ln_Office_receive_deed (o : Str) (bk ln : Addr) : (offF o bk ln).lookup ("_receive_deed" : Str) = none := by kernel_rfl
theorem ln_Office_receive_notice (o : Str) (bk ln : Addr) : (offF o bk ln).lookup ("_receive_notice" : Str) = none := by kernel_rfl
theorem ln_Office_receive_claim (o : Str) (bk ln : Addr) : (offF o bk ln).lookup ("_receive_claim" : Str) = none := by kernel_rfl
theorem lk_World_net (n o : Addr) : (wldF n o).lookup ("net" : Str) = some (.ref n) := by kernel_rfl
theorem lk_World_offices (n o : Addr) : (wldF n o).lookup ("_offices" : Str) = some (.ref o) := by kernel_rfl
theorem ln_World_names (n o : Addr) : (wldF n o).lookup ("names" : Str) = none := by kernel_rfl
theorem ln_World_office (n o : Addr) : (wldF n o).lookup ("office" : Str) = none := by kernel_rfl
theorem ln_World_create (n o : Addr) : (wldF n o).lookup ("create" : Str) = none := by kernel_rfl
theorem ln_World_give (n o : Addr) : (wldF n o).lookup ("give" : Str) = none := by kernel_rfl
theorem ln_World_split (n o : Addr) : (wldF n o).lookup ("split" : Str) = none := by kernel_rfl
theorem ln_World_join (n o : Addr) : (wldF n o).lookup ("join" : Str) = none := by kernel_rfl
theorem ln_World_use (n o : Addr) : (wldF n o).lookup ("use" : Str) = none := by kernel_rfl
theorem ln_World_recall (n o : Addr) : (wldF n o).lookup ("recall" : Str) = none := by kernel_rfl
theorem ln_World_tick (n o : Addr) : (wldF n o).lookup ("tick" : Str) = none := by kernel_rfl
theorem ln_World_deliver (n o : Addr) : (wldF n o).lookup ("deliver" : Str) = none := by kernel_rfl
theorem ln_World_cut (n o : Addr) : (wldF n o).lookup ("cut" : Str) = none := by kernel_rfl
theorem ln_World_calm (n o : Addr) : (wldF n o).lookup ("calm" : Str) = none := by kernel_rfl
theorem ln_World_waits (n o : Addr) : (wldF n o).lookup ("_waits" : Str) = none := by kernel_rfl
theorem ln_World_send (n o : Addr) : (wldF n o).lookup ("_send" : Str) = none := by kernel_rfl
theorem pt_Entry_home (t : Str) (e : Ent) (c : Addr) (x : Option Str) : putF "home" (optV x) (entF t e c) = entF t { e with home := x } c := by kernel_rfl
theorem pt_Entry_quantity (t : Str) (e : Ent) (c : Addr) (x : Int) : putF "quantity" (.int x) (entF t e c) = entF t { e with qty := x } c := by kernel_rfl
theorem pt_Entry_epoch (t : Str) (e : Ent) (c : Addr) (x : Int) : putF "epoch" (.int x) (entF t e c) = entF t { e with ep := x } c := by kernel_rfl
theorem pt_Entry_state (t : Str) (e : Ent) (c : Addr) (x : Stt) : putF "state" (.str x.str) (entF t e c) = entF t { e with st := x } c := by kernel_rfl
theorem pt_Entry_receiver (t : Str) (e : Ent) (c : Addr) (x : Option Str) : putF "receiver" (optV x) (entF t e c) = entF t { e with rcv := x } c := by kernel_rfl
theorem pt_Entry_is_recalled (t : Str) (e : Ent) (c : Addr) (x : Bool) : putF "is_recalled" (.bl x) (entF t e c) = entF t { e with cb := x } c := by kernel_rfl
theorem pt_Entry_is_received (t : Str) (e : Ent) (c : Addr) (x : Bool) : putF "is_received" (.bl x) (entF t e c) = entF t { e with rd := x } c := by kernel_rfl
theorem pt_Entry_is_noted (t : Str) (e : Ent) (c : Addr) (x : Bool) : putF "is_noted" (.bl x) (entF t e c) = entF t { e with nt := x } c := by kernel_rfl
theorem pt_Entry_is_paid (t : Str) (e : Ent) (c : Addr) (x : Bool) : putF "is_paid" (.bl x) (entF t e c) = entF t { e with pd := x } c := by kernel_rfl
theorem pt_Book_credit (o : Str) (en pa : Addr) (cr nx x : Int) : putF "credit" (.int x) (bokF o en pa cr nx) = bokF o en pa x nx := by kernel_rfl
theorem pt_Book_next_number (o : Str) (en pa : Addr) (cr nx x : Int) : putF "next_number" (.int x) (bokF o en pa cr nx) = bokF o en pa cr x := by kernel_rfl
theorem pt_Net_letters (l m : Addr) : putF "_letters" (.ref m) (netF l) = netF m := by kernel_rfl
theorem mk_Entry (t : Str) (c : Addr) : putF "is_paid" (.bl false) (putF "is_noted" (.bl false) (putF "is_received" (.bl false) (putF "is_recalled" (.bl false) (putF "children" (.ref c) (putF "receiver" .non (putF "state" (.str "unknown") (putF "epoch" (.int 0) (putF "quantity" (.int 0) (putF "home" .non (putF "thing" (.str t) [])))))))))) = entF t Ent.new c := by kernel_rfl
theorem mk_Book (o : Str) (en pa : Addr) : putF "next_number" (.int 1) (putF "credit" (.int 0) (putF "payments" (.ref pa) (putF "entries" (.ref en) (putF "office" (.str o) [])))) = bokF o en pa 0 1 := by kernel_rfl
theorem mk_Office (o : Str) (bk ln : Addr) : putF "_lines" (.ref ln) (putF "_book" (.ref bk) (putF "name" (.str o) [])) = offF o bk ln := by kernel_rfl
theorem mk_Net (l : Addr) : putF "_letters" (.ref l) [] = netF l := by kernel_rfl
theorem mk_World (n o : Addr) : putF "_offices" (.ref o) (putF "net" (.ref n) []) = wldF n o := by kernel_rfl
end LH
namespace LH
open PySem PySem.Spec PyProof.Rows L2
section
variable {K : PySem.W.Frag} {H H' : Hp} {L : Lay} {S : OSt}
theorem keys_md {S : OSt} {t : Str} {f : Ent → Ent} : (S.mod t f).es.map (·.1) = S.es.map (·.1) := md_keys _ _ _
theorem ins_inj {C C' d d' : Addr} {fs fs' : List (Str × V)} (h : (some (HO.ins C d fs) : Option HO) = some (.ins C' d' fs')) : fs = fs' := by
  injection h with h
  injection h
theorem ent_thing {t u : Str} {e f : Ent} {c d : Addr} (h : entF t e c = entF u f d) : t = u := by
  unfold entF at h
  injection h with h1 _
  injection h1 with _ h2
  injection h2
theorem ent_nbook {t : Str} {e : Ent} {c : Addr} {o : Str} {en pa : Addr} {cr nx : Int} (h : entF t e c = bokF o en pa cr nx) : False := by
  have := congrArg List.length h
  simp [entF, bokF] at this
theorem ent_noff {t : Str} {e : Ent} {c : Addr} {o : Str} {bk ln : Addr} (h : entF t e c = offF o bk ln) : False := by
  have := congrArg List.length h
  simp [entF, offF] at this
theorem bok_noff {o o' : Str} {en pa bk ln : Addr} {cr nx : Int} (h : bokF o en pa cr nx = offF o' bk ln) : False := by
  have := congrArg List.length h
  simp [offF, bokF] at this
/-- places apart -/
theorem OffAt.ea_inj (h : OffAt K H L S) {t u : Str} (a : t ∈ S.es.map (·.1)) (b : u ∈ S.es.map (·.1)) (e : L.ea t = L.ea u) : t = u := by
  obtain ⟨x, hx⟩ := gt_key a
  obtain ⟨y, hy⟩ := gt_key b
  obtain ⟨_, q⟩ := h.ent t x (gt_mem hx)
  obtain ⟨_, r⟩ := h.ent u y (gt_mem hy)
  rw [e, r] at q
  exact (ent_thing (ins_inj q)).symm
theorem OffAt.of_bk (h : OffAt K H L S) : L.of ≠ L.bk := fun e => by
  obtain ⟨_, q⟩ := h.of
  obtain ⟨_, r⟩ := h.bk
  rw [e, r] at q
  exact bok_noff (ins_inj q)
theorem OffAt.ea_bk (h : OffAt K H L S) {t : Str} (a : t ∈ S.es.map (·.1)) : L.ea t ≠ L.bk := fun e => by
  obtain ⟨x, hx⟩ := gt_key a
  obtain ⟨_, q⟩ := h.ent t x (gt_mem hx)
  obtain ⟨_, r⟩ := h.bk
  rw [e, r] at q
  exact ent_nbook (ins_inj q).symm
theorem OffAt.ea_of (h : OffAt K H L S) {t : Str} (a : t ∈ S.es.map (·.1)) : L.ea t ≠ L.of := fun e => by
  obtain ⟨x, hx⟩ := gt_key a
  obtain ⟨_, q⟩ := h.ent t x (gt_mem hx)
  obtain ⟨_, r⟩ := h.of
  rw [e, r] at q
  exact ent_noff (ins_inj q).symm
theorem gt_eq {e f : Ent} {t : Str} (nd : (S.es.map (·.1)).Nodup) (a : (t, e) ∈ S.es) (b : (t, f) ∈ S.es) : e = f := by
  have p := mem_gt nd a
  have q := mem_gt nd b
  rw [p] at q
  injection q
theorem ent_md {L : Lay} {S : OSt} {t : Str} {f : Ent → Ent} : entKV L (S.mod t f).es = entKV L S.es := by
  show (md S.es t f).map (fun p => ((Sum.inr p.1 : Key), V.ref (L.ea p.1))) = S.es.map (fun p => ((Sum.inr p.1 : Key), V.ref (L.ea p.1)))
  have := congrArg (List.map fun k : Str => ((Sum.inr k : Key), V.ref (L.ea k))) (md_keys S.es t f)
  rw [List.map_map, List.map_map] at this
  exact this
/-- an entry's fields change -/
theorem stp_ent (h : OffAt K H L S) {t : Str} {e : Ent} {f : Ent → Ent} {dx : Addr} {fs : List (Str × V)} (he : S.get t = some e) (hx : H (L.ea t) = some (.ins (cEntry K) dx fs)) (hc : (f e).ch = e.ch) :
    Stp K H L S (upd H (L.ea t) (.ins (cEntry K) dx (entF t (f e) (L.ca t)))) L (S.mod t f) := by
  have ht : t ∈ S.es.map (·.1) := key_of he
  have nl : ∀ {b : Addr} {xs : List V}, H b = some (.lst xs) → b ≠ L.ea t := fun q => ne_of q hx (by intro z; cases z)
  have nk : ∀ {b : Addr} {xs : List (Key × V)}, H b = some (.dK xs) → b ≠ L.ea t := fun q => ne_of q hx (by intro z; cases z)
  have ntp : ∀ {b : Addr} {xs : List V}, H b = some (.tup xs) → b ≠ L.ea t := fun q => ne_of q hx (by intro z; cases z)
  have mm : ∀ u x, (u, x) ∈ (S.mod t f).es → (u = t ∧ x = f e) ∨ (u ≠ t ∧ (u, x) ∈ S.es) := fun u x m => by
    obtain ⟨p, hp, q⟩ := List.mem_map.mp m
    by_cases z : p.1 = t
    · rw [if_pos z] at q
      injection q with q1 q2
      have e1 : p.2 = e := gt_eq h.nd (by rw [← z]; exact hp) (gt_mem he)
      rw [e1] at q2
      exact .inl ⟨by rw [← q1, z], q2.symm⟩
    · rw [if_neg z] at q
      subst q
      exact .inr ⟨z, hp⟩
  refine ⟨⟨?_, ?_, ?_, ?_, ?_, fun u x m => ?_, fun u x m => ?_, by rw [keys_md]; exact h.nd, h.ndp, fun u v a b => ?_, fun u a => ?_, h.enpa⟩, ⟨fun b o q n => ?_, fun b q => .inl ?_, fun b q => ?_⟩, Ext.refl _ _, fun u m => by rw [keys_md]; exact m, rfl⟩
  · obtain ⟨d, q⟩ := h.of
    exact ⟨d, by rw [upd_ne (h.ea_of ht).symm]; exact q⟩
  · obtain ⟨d, q⟩ := h.bk
    exact ⟨d, by rw [upd_ne (h.ea_bk ht).symm]; exact q⟩
  · obtain ⟨ls, l1, q⟩ := h.ln
    exact ⟨ls, l1, by rw [upd_ne (nl q)]; exact q⟩
  · rw [upd_ne (nk h.en)]
    rw [ent_md]
    exact h.en
  · obtain ⟨pt, q, r⟩ := h.pa
    exact ⟨pt, by rw [upd_ne (nk q)]; exact q, fun p hp => by rw [upd_ne (ntp (r p hp))]; exact r p hp⟩
  · rcases mm u x m with ⟨rfl, rfl⟩ | ⟨nu, m'⟩
    · exact ⟨dx, upd_same⟩
    · obtain ⟨d, q⟩ := h.ent u x m'
      refine ⟨d, ?_⟩
      rw [upd_ne fun z => nu (h.ea_inj (List.mem_map.mpr ⟨_, m', rfl⟩) ht z)]
      exact q
  · rcases mm u x m with ⟨rfl, rfl⟩ | ⟨nu, m'⟩
    · rw [hc, upd_ne (nl (h.chl _ _ (gt_mem he)))]
      exact h.chl _ _ (gt_mem he)
    · rw [upd_ne (nl (h.chl _ _ m'))]
      exact h.chl _ _ m'
  · rw [keys_md] at a b
    exact h.cinj u v a b
  · rw [keys_md] at a
    exact h.cln u a
  · rw [upd_ne fun z => n (.inr (.inr (.inr (.inr (.inr ⟨t, ht, .inl z⟩)))))]
    exact q
  · unfold Foot at q ⊢
    rw [keys_md] at q
    exact q
  · by_cases z : b = L.ea t
    · rw [z, upd_same]
      intro w
      cases w
    · rw [upd_ne z]
      exact q
/-- a child is noted -/
theorem stp_child (h : OffAt K H L S) {t c : Str} {e : Ent} (he : S.get t = some e) :
    Stp K H L S (upd H (L.ca t) (.lst (e.ch.map V.str ++ [.str c]))) L (S.mod t fun e => { e with ch := e.ch ++ [c] }) := by
  have ht : t ∈ S.es.map (·.1) := key_of he
  have hx := h.chl _ _ (gt_mem he)
  have ni : ∀ {b C d : Addr} {xs : List (Str × V)}, H b = some (.ins C d xs) → b ≠ L.ca t := fun q => ne_of q hx (by intro z; cases z)
  have nk : ∀ {b : Addr} {xs : List (Key × V)}, H b = some (.dK xs) → b ≠ L.ca t := fun q => ne_of q hx (by intro z; cases z)
  have ntp : ∀ {b : Addr} {xs : List V}, H b = some (.tup xs) → b ≠ L.ca t := fun q => ne_of q hx (by intro z; cases z)
  have mm : ∀ u x, (u, x) ∈ (S.mod t fun e => { e with ch := e.ch ++ [c] }).es → (u = t ∧ x = { e with ch := e.ch ++ [c] }) ∨ (u ≠ t ∧ (u, x) ∈ S.es) := fun u x m => by
    obtain ⟨p, hp, q⟩ := List.mem_map.mp m
    by_cases z : p.1 = t
    · rw [if_pos z] at q
      injection q with q1 q2
      have e1 : p.2 = e := gt_eq h.nd (by rw [← z]; exact hp) (gt_mem he)
      rw [e1] at q2
      exact .inl ⟨by rw [← q1, z], q2.symm⟩
    · rw [if_neg z] at q
      subst q
      exact .inr ⟨z, hp⟩
  refine ⟨⟨?_, ?_, ?_, ?_, ?_, fun u x m => ?_, fun u x m => ?_, by rw [keys_md]; exact h.nd, h.ndp, fun u v a b => ?_, fun u a => ?_, h.enpa⟩, ⟨fun b o q n => ?_, fun b q => .inl ?_, fun b q => ?_⟩, Ext.refl _ _, fun u m => by rw [keys_md]; exact m, rfl⟩
  · obtain ⟨d, q⟩ := h.of
    exact ⟨d, by rw [upd_ne (ni q)]; exact q⟩
  · obtain ⟨d, q⟩ := h.bk
    exact ⟨d, by rw [upd_ne (ni q)]; exact q⟩
  · obtain ⟨ls, l1, q⟩ := h.ln
    exact ⟨ls, l1, by rw [upd_ne (h.cln t ht).symm]; exact q⟩
  · rw [upd_ne (nk h.en)]
    rw [ent_md]
    exact h.en
  · obtain ⟨pt, q, r⟩ := h.pa
    exact ⟨pt, by rw [upd_ne (nk q)]; exact q, fun p hp => by rw [upd_ne (ntp (r p hp))]; exact r p hp⟩
  · rcases mm u x m with ⟨rfl, rfl⟩ | ⟨nu, m'⟩
    · obtain ⟨d, q⟩ := h.ent _ _ (gt_mem he)
      exact ⟨d, by rw [upd_ne (ni q)]; exact q⟩
    · obtain ⟨d, q⟩ := h.ent u x m'
      exact ⟨d, by rw [upd_ne (ni q)]; exact q⟩
  · rcases mm u x m with ⟨rfl, rfl⟩ | ⟨nu, m'⟩
    · rw [upd_same, List.map_append]
      rfl
    · rw [upd_ne fun z => nu (h.cinj _ _ (List.mem_map.mpr ⟨_, m', rfl⟩) ht z)]
      exact h.chl _ _ m'
  · rw [keys_md] at a b
    exact h.cinj u v a b
  · rw [keys_md] at a
    exact h.cln u a
  · rw [upd_ne fun z => n (.inr (.inr (.inr (.inr (.inr ⟨t, ht, .inr z⟩)))))]
    exact q
  · unfold Foot at q ⊢
    rw [keys_md] at q
    exact q
  · by_cases z : b = L.ca t
    · rw [z, upd_same]
      intro w
      cases w
    · rw [upd_ne z]
      exact q
def Lay.add (L : Lay) (t : Str) (p c : Addr) : Lay := { L with ea := fun u => if u = t then p else L.ea u, ca := fun u => if u = t then c else L.ca u }
theorem add_keys {S : OSt} {t : Str} {e : Ent} : (S.add t e).es.map (·.1) = S.es.map (·.1) ++ [t] := by
  show (S.es ++ [(t, e)]).map (·.1) = _
  rw [List.map_append]
  rfl
theorem valV_ent {L : Lay} (t : Str) : ∀ es : List (Str × Ent), valV (entKV L es) (Sum.inr t : Key) = (gt es t).map fun _ => V.ref (L.ea t)
  | [] => rfl
  | p :: r => by
    have ih := valV_ent (L := L) t r
    have e : entKV L (p :: r) = ((Sum.inr p.1 : Key), V.ref (L.ea p.1)) :: entKV L r := rfl
    rw [e]
    by_cases q : p.1 = t
    · rw [gt_pos q, valV_pos (p := ((Sum.inr p.1 : Key), V.ref (L.ea p.1))) (by rw [q]), q]
      rfl
    · rw [gt_neg q, valV_neg (p := ((Sum.inr p.1 : Key), V.ref (L.ea p.1))) (fun z => q (Sum.inr.inj z)), ih]
/-- a new entry comes into the book: p its object, c its list, both new -/
theorem stp_add (h : OffAt K H L S) {H2 : Hp} {t : Str} {e : Ent} {p c dx : Addr} (s : Same H H2) (ht : S.get t = none) (hp : H p = none) (hc : H c = none) (hx : H2 p = some (.ins (cEntry K) dx (entF t e c))) (hl : H2 c = some (.lst (e.ch.map V.str))) :
    Stp K H L S (upd H2 L.en (.dK (putK (entKV L S.es) (Sum.inr t) (.ref p)))) (L.add t p c) (S.add t e) := by
  have nk : ¬ t ∈ S.es.map (·.1) := none_key ht
  have pc : p ≠ c := ne_of hx hl (by intro z; cases z)
  have en2 := s _ _ h.en
  have pen : p ≠ L.en := ne_of hx en2 (by intro z; cases z)
  have cen : c ≠ L.en := ne_of hl en2 (by intro z; cases z)
  have ke : ∀ u, u ∈ S.es.map (·.1) → (L.add t p c).ea u = L.ea u := fun u m => if_neg fun z => nk (by rw [← z]; exact m)
  have kc : ∀ u, u ∈ S.es.map (·.1) → (L.add t p c).ca u = L.ca u := fun u m => if_neg fun z => nk (by rw [← z]; exact m)
  have te : (L.add t p c).ea t = p := if_pos rfl
  have tc : (L.add t p c).ca t = c := if_pos rfl
  have ni : ∀ {b C d : Addr} {xs : List (Str × V)}, H2 b = some (.ins C d xs) → b ≠ L.en := fun q => ne_of q en2 (by intro z; cases z)
  have nl : ∀ {b : Addr} {xs : List V}, H2 b = some (.lst xs) → b ≠ L.en := fun q => ne_of q en2 (by intro z; cases z)
  have ntp : ∀ {b : Addr} {xs : List V}, H2 b = some (.tup xs) → b ≠ L.en := fun q => ne_of q en2 (by intro z; cases z)
  have mm : ∀ u x, (u, x) ∈ (S.add t e).es → (u = t ∧ x = e) ∨ (u ∈ S.es.map (·.1) ∧ (u, x) ∈ S.es) := fun u x m => by
    rcases List.mem_append.mp m with q | q
    · exact .inr ⟨List.mem_map.mpr ⟨_, q, rfl⟩, q⟩
    · rw [List.mem_singleton] at q
      injection q with q1 q2
      exact .inl ⟨q1, q2⟩
  have km : ∀ u, u ∈ (S.add t e).es.map (·.1) → u = t ∨ u ∈ S.es.map (·.1) := fun u m => by
    rw [add_keys] at m
    rcases List.mem_append.mp m with q | q
    · exact .inr q
    · exact .inl (List.mem_singleton.mp q)
  have en : (upd H2 L.en (.dK (putK (entKV L S.es) (Sum.inr t) (.ref p)))) (L.add t p c).en = some (.dK (entKV (L.add t p c) (S.add t e).es)) := by
    refine upd_same.trans ?_
    have e0 : valV (entKV L S.es) (Sum.inr t : Key) = none := by
      rw [valV_ent]
      have : gt S.es t = none := ht
      rw [this]
      rfl
    rw [putK_new _ e0]
    have e1 : entKV (L.add t p c) (S.add t e).es = entKV L S.es ++ [((Sum.inr t : Key), V.ref p)] := by
      show (S.es ++ [(t, e)]).map _ = _
      rw [List.map_append]
      congr 1
      · refine List.map_congr_left fun q hq => ?_
        show (Sum.inr q.1, V.ref ((L.add t p c).ea q.1)) = (Sum.inr q.1, V.ref (L.ea q.1))
        rw [ke q.1 (List.mem_map.mpr ⟨_, hq, rfl⟩)]
      · show [((Sum.inr t : Key), V.ref ((L.add t p c).ea t))] = _
        rw [te]
    rw [e1]
  refine ⟨⟨?_, ?_, ?_, en, ?_, fun u x m => ?_, fun u x m => ?_, ?_, h.ndp, fun u v a b q => ?_, fun u a => ?_, h.enpa⟩, ⟨fun b o q n => ?_, fun b q => ?_, fun b q => ?_⟩, ⟨rfl, rfl, rfl, rfl, rfl, ke, kc⟩, fun u m => by rw [add_keys]; exact List.mem_append_left _ m, rfl⟩
  · obtain ⟨d, q⟩ := h.of
    exact ⟨d, (upd_ne (ni (s _ _ q))).trans (s _ _ q)⟩
  · obtain ⟨d, q⟩ := h.bk
    exact ⟨d, (upd_ne (ni (s _ _ q))).trans (s _ _ q)⟩
  · obtain ⟨ls, l1, q⟩ := h.ln
    exact ⟨ls, l1, (upd_ne (nl (s _ _ q))).trans (s _ _ q)⟩
  · obtain ⟨pt, q, r⟩ := h.pa
    exact ⟨pt, (upd_ne h.enpa.symm).trans (s _ _ q), fun z hz => (upd_ne (ntp (s _ _ (r z hz)))).trans (s _ _ (r z hz))⟩
  · rcases mm u x m with ⟨rfl, rfl⟩ | ⟨mu, m'⟩
    · rw [te, tc]
      exact ⟨dx, (upd_ne pen).trans hx⟩
    · rw [ke u mu, kc u mu]
      obtain ⟨d, q⟩ := h.ent u x m'
      exact ⟨d, (upd_ne (ni (s _ _ q))).trans (s _ _ q)⟩
  · rcases mm u x m with ⟨rfl, rfl⟩ | ⟨mu, m'⟩
    · rw [tc]
      exact (upd_ne cen).trans hl
    · rw [kc u mu]
      have q := h.chl u x m'
      exact (upd_ne (nl (s _ _ q))).trans (s _ _ q)
  · rw [add_keys]
    exact nd_snoc h.nd nk
  · have new : ∀ v, v ∈ S.es.map (·.1) → L.ca v ≠ c := fun v hv => by
      obtain ⟨x, hx⟩ := gt_key hv
      exact ne_of_none (h.chl v x (gt_mem hx)) hc
    rcases km u a with e1 | a1 <;> rcases km v b with e2 | b1
    · rw [e1, e2]
    · rw [e1, tc, kc v b1] at q
      exact absurd q.symm (new v b1)
    · rw [e2, tc, kc u a1] at q
      exact absurd q (new u a1)
    · rw [kc u a1, kc v b1] at q
      exact h.cinj u v a1 b1 q
  · rcases km u a with rfl | a
    · rw [tc]
      obtain ⟨ls, _, q⟩ := h.ln
      exact (ne_of_none q hc).symm
    · rw [kc u a]
      exact h.cln u a
  · have z : b ≠ L.en := fun z => n (.inr (.inr (.inr (.inl z))))
    exact (upd_ne z).trans (s _ _ q)
  · rcases q with q | q | q | q | q | ⟨u, m, q⟩
    · exact .inl (.inl q)
    · exact .inl (.inr (.inl q))
    · exact .inl (.inr (.inr (.inl q)))
    · exact .inl (.inr (.inr (.inr (.inl q))))
    · exact .inl (.inr (.inr (.inr (.inr (.inl q)))))
    · rcases km u m with rfl | m
      · rw [te, tc] at q
        rcases q with rfl | rfl
        · exact .inr hp
        · exact .inr hc
      · rw [ke u m, kc u m] at q
        exact .inl (.inr (.inr (.inr (.inr (.inr ⟨u, m, q⟩)))))
  · by_cases z : b = L.en
    · rw [z, upd_same]
      intro w
      cases w
    · rw [upd_ne z]
      cases w : H b with
      | none => exact absurd w q
      | some o =>
        rw [s _ _ w]
        intro v
        cases v
/-- the book's numbers change -/
theorem stp_book (h : OffAt K H L S) {dx : Addr} {fs : List (Str × V)} (cr nx : Int) (hx : H L.bk = some (.ins (cBook K) dx fs)) :
    Stp K H L S (upd H L.bk (.ins (cBook K) dx (bokF S.name L.en L.pa cr nx))) L { S with cr := cr, nx := nx } := by
  have nl : ∀ {b : Addr} {xs : List V}, H b = some (.lst xs) → b ≠ L.bk := fun q => ne_of q hx (by intro z; cases z)
  have nk : ∀ {b : Addr} {xs : List (Key × V)}, H b = some (.dK xs) → b ≠ L.bk := fun q => ne_of q hx (by intro z; cases z)
  have ntp : ∀ {b : Addr} {xs : List V}, H b = some (.tup xs) → b ≠ L.bk := fun q => ne_of q hx (by intro z; cases z)
  refine ⟨⟨?_, ⟨dx, upd_same⟩, ?_, ?_, ?_, fun u x m => ?_, fun u x m => ?_, h.nd, h.ndp, h.cinj, h.cln, h.enpa⟩, ⟨fun b o q n => ?_, fun b q => .inl q, fun b q => ?_⟩, Ext.refl _ _, fun u m => m, rfl⟩
  · obtain ⟨d, q⟩ := h.of
    exact ⟨d, (upd_ne h.of_bk).trans q⟩
  · obtain ⟨ls, l1, q⟩ := h.ln
    exact ⟨ls, l1, (upd_ne (nl q)).trans q⟩
  · exact (upd_ne (nk h.en)).trans h.en
  · obtain ⟨pt, q, r⟩ := h.pa
    exact ⟨pt, (upd_ne (nk q)).trans q, fun p hp => (upd_ne (ntp (r p hp))).trans (r p hp)⟩
  · obtain ⟨d, q⟩ := h.ent u x m
    exact ⟨d, (upd_ne (h.ea_bk (List.mem_map.mpr ⟨_, m, rfl⟩))).trans q⟩
  · exact (upd_ne (nl (h.chl u x m))).trans (h.chl u x m)
  · exact (upd_ne fun z => n (.inr (.inl z))).trans q
  · by_cases z : b = L.bk
    · rw [z, upd_same]
      intro w
      cases w
    · rw [upd_ne z]
      exact q
/-- a line is written -/
theorem stp_line (h : OffAt K H L S) {ls : List V} (v : V) (hx : H L.ln = some (.lst ls)) (hn : ls.length = S.ln) :
    Stp K H L S (upd H L.ln (.lst (ls ++ [v]))) L { S with ln := S.ln + 1 } := by
  have ni : ∀ {b C d : Addr} {xs : List (Str × V)}, H b = some (.ins C d xs) → b ≠ L.ln := fun q => ne_of q hx (by intro z; cases z)
  have nk : ∀ {b : Addr} {xs : List (Key × V)}, H b = some (.dK xs) → b ≠ L.ln := fun q => ne_of q hx (by intro z; cases z)
  have ntp : ∀ {b : Addr} {xs : List V}, H b = some (.tup xs) → b ≠ L.ln := fun q => ne_of q hx (by intro z; cases z)
  refine ⟨⟨?_, ?_, ⟨_, ?_, upd_same⟩, ?_, ?_, fun u x m => ?_, fun u x m => ?_, h.nd, h.ndp, h.cinj, h.cln, h.enpa⟩, ⟨fun b o q n => ?_, fun b q => .inl q, fun b q => ?_⟩, Ext.refl _ _, fun u m => m, rfl⟩
  · obtain ⟨d, q⟩ := h.of
    exact ⟨d, (upd_ne (ni q)).trans q⟩
  · obtain ⟨d, q⟩ := h.bk
    exact ⟨d, (upd_ne (ni q)).trans q⟩
  · rw [List.length_append, hn]
    rfl
  · exact (upd_ne (nk h.en)).trans h.en
  · obtain ⟨pt, q, r⟩ := h.pa
    exact ⟨pt, (upd_ne (nk q)).trans q, fun p hp => (upd_ne (ntp (r p hp))).trans (r p hp)⟩
  · obtain ⟨d, q⟩ := h.ent u x m
    exact ⟨d, (upd_ne (ni q)).trans q⟩
  · exact (upd_ne (h.cln u (List.mem_map.mpr ⟨_, m, rfl⟩))).trans (h.chl u x m)
  · exact (upd_ne fun z => n (.inr (.inr (.inl z)))).trans q
  · by_cases z : b = L.ln
    · rw [z, upd_same]
      intro w
      cases w
    · rw [upd_ne z]
      exact q
theorem valV_pay {pt : Str → Addr} (t : Str) : ∀ ps : List (Str × Str × Int), valV (payKV pt ps) (Sum.inr t : Key) = (gt ps t).map fun _ => V.ref (pt t)
  | [] => rfl
  | p :: r => by
    have ih := valV_pay (pt := pt) t r
    have e : payKV pt (p :: r) = ((Sum.inr p.1 : Key), V.ref (pt p.1)) :: payKV pt r := rfl
    rw [e]
    by_cases q : p.1 = t
    · rw [gt_pos q, valV_pos (p := ((Sum.inr p.1 : Key), V.ref (pt p.1))) (by rw [q]), q]
      rfl
    · rw [gt_neg q, valV_neg (p := ((Sum.inr p.1 : Key), V.ref (pt p.1))) (fun z => q (Sum.inr.inj z)), ih]
/-- a payment is made: q a tuple of the office and the quantity -/
theorem stp_pay (h : OffAt K H L S) {pt : Str → Addr} {t o : Str} {n : Int} {q : Addr} (hq : H q = some (.tup [.str o, .int n])) (hx : H L.pa = some (.dK (payKV pt S.ps))) (hr : ∀ p ∈ S.ps, H (pt p.1) = some (.tup [.str p.2.1, .int p.2.2])) (ht : gt S.ps t = none) :
    Stp K H L S (upd H L.pa (.dK (putK (payKV pt S.ps) (Sum.inr t) (.ref q)))) L { S with ps := S.ps ++ [(t, o, n)] } := by
  have ni : ∀ {b C d : Addr} {xs : List (Str × V)}, H b = some (.ins C d xs) → b ≠ L.pa := fun q => ne_of q hx (by intro z; cases z)
  have nl : ∀ {b : Addr} {xs : List V}, H b = some (.lst xs) → b ≠ L.pa := fun q => ne_of q hx (by intro z; cases z)
  have ntp : ∀ {b : Addr} {xs : List V}, H b = some (.tup xs) → b ≠ L.pa := fun q => ne_of q hx (by intro z; cases z)
  have nk : ¬ t ∈ S.ps.map (·.1) := none_key ht
  refine ⟨⟨?_, ?_, ?_, ?_, ⟨fun u => if u = t then q else pt u, ?_, fun p hp => ?_⟩, fun u x m => ?_, fun u x m => ?_, h.nd, ?_, h.cinj, h.cln, h.enpa⟩, ⟨fun b o q n => ?_, fun b q => .inl q, fun b q => ?_⟩, Ext.refl _ _, fun u m => m, rfl⟩
  · obtain ⟨d, q⟩ := h.of
    exact ⟨d, (upd_ne (ni q)).trans q⟩
  · obtain ⟨d, q⟩ := h.bk
    exact ⟨d, (upd_ne (ni q)).trans q⟩
  · obtain ⟨ls, l1, q⟩ := h.ln
    exact ⟨ls, l1, (upd_ne (nl q)).trans q⟩
  · exact (upd_ne h.enpa).trans h.en
  · refine upd_same.trans ?_
    have e0 : valV (payKV pt S.ps) (Sum.inr t : Key) = none := by
      rw [valV_pay, ht]
      rfl
    rw [putK_new _ e0]
    have e1 : payKV (fun u => if u = t then q else pt u) (S.ps ++ [(t, o, n)]) = payKV pt S.ps ++ [((Sum.inr t : Key), V.ref q)] := by
      show (S.ps ++ [(t, o, n)]).map _ = _
      rw [List.map_append]
      congr 1
      · refine List.map_congr_left fun p hp => ?_
        have z : ¬ p.1 = t := fun z => nk (by rw [← z]; exact List.mem_map.mpr ⟨_, hp, rfl⟩)
        show (Sum.inr p.1, V.ref (if p.1 = t then q else pt p.1)) = (Sum.inr p.1, V.ref (pt p.1))
        rw [if_neg z]
      · show [((Sum.inr t : Key), V.ref (if t = t then q else pt t))] = _
        rw [if_pos rfl]
    rw [e1]
  · rcases List.mem_append.mp hp with m | m
    · have z : ¬ p.1 = t := fun z => nk (by rw [← z]; exact List.mem_map.mpr ⟨_, m, rfl⟩)
      show upd H L.pa _ (if p.1 = t then q else pt p.1) = _
      rw [if_neg z, upd_ne (ntp (hr p m))]
      exact hr p m
    · rw [List.mem_singleton] at m
      subst m
      show upd H L.pa _ (if t = t then q else pt t) = _
      rw [if_pos rfl, upd_ne (ntp hq)]
      exact hq
  · obtain ⟨d, q⟩ := h.ent u x m
    exact ⟨d, (upd_ne (ni q)).trans q⟩
  · exact (upd_ne (nl (h.chl u x m))).trans (h.chl u x m)
  · show ((S.ps ++ [(t, o, n)]).map (·.1)).Nodup
    rw [List.map_append]
    exact nd_snoc h.ndp nk
  · exact (upd_ne fun z => n (.inr (.inr (.inr (.inr (.inl z)))))).trans q
  · by_cases z : b = L.pa
    · rw [z, upd_same]
      intro w
      cases w
    · rw [upd_ne z]
      exact q
end
end LH
namespace LH
open PySem PySem.Spec PyProof.Rows L2
theorem ifT {c : Bool} {A B : Prop} (hc : c = true) (h : A) : if c = true then A else B := by
  rw [if_pos hc]
  exact h
theorem ifF {c : Bool} {A B : Prop} (hc : c = false) (h : B) : if c = true then A else B := by
  rw [hc]
  exact iteF h
theorem cut_erase {ls : List V} {i : Nat} (hi : i < ls.length) : cutV ls none (some (i : Int)) ++ cutV ls (some ((i : Int) + 1)) none = ls.eraseIdx i := by
  have e1 : cutV ls none (some (i : Int)) = ls.take i := by
    unfold cutV
    rw [HT.sIx_none, HT.sIx_nat, List.drop_zero, Nat.min_eq_left (Nat.le_of_lt hi)]
    rfl
  have e2 : cutV ls (some ((i : Int) + 1)) none = ls.drop (i + 1) := by
    have c : ((i : Int) + 1) = ((i + 1 : Nat) : Int) := rfl
    unfold cutV
    rw [HT.sIx_none, c, HT.sIx_nat, Nat.min_eq_left hi, List.take_of_length_le]
    rw [List.length_drop]
    omega
  rw [e1, e2, List.eraseIdx_eq_take_drop_succ]
/-! ### the net -/
/-- what an error finds: fresh things beside -/
def Err (C : Addr) (H : Hp) (E : XK) : Prop := ∀ H', Same H H' → E (.ref C) none H'
def NetAt (K : PySem.W.Frag) (H : Hp) (n l : Addr) (ls : List V) : Prop := ∃ dx, H n = some (.ins (cNet K) dx (netF l)) ∧ H l = some (.lst ls)
def spNetInit (K : PySem.W.Frag) : Sp := fun vs H Q _ => ∃ (p dx : Addr), vs = [.ref p] ∧ H p = some (.ins (cNet K) dx []) ∧ ∀ l, H l = none → Q .non (upd (upd H l (.lst [])) p (.ins (cNet K) dx (netF l)))
theorem sc_Net_init : FnScope ["self"] ["self"] (defScope sNet_init) := ⟨rfl, rfl, rfl, by decide +kernel, rfl, by decide +kernel, by decide +kernel⟩
abbrev Ok_Net_init (P : Program) (w : World) (K : PySem.W.Frag) (mg : Str → Option Value) (base : Heap) : Prop := Has P w K mg base CX0 1 (fNet_init K) ["self"] (spNetInit K)
theorem ok_Net_init {P : Program} {w : World} {K : PySem.W.Frag} {mg : Str → Option Value} {base : Heap} (T : Txt K mg) : Ok_Net_init P w K mg base := by
  obtain ⟨fd, F⟩ := T.dNet_init
  refine ⟨fd, FunD.ok (CX := CX0) F sc_Net_init (fun vs H Q E h => ?_) (fun cdv A outer s H vs Q E hr h => ?_), FunD.bindsN F fun _ _ _ _ _ _ us hl => match us, hl with | [_], _ => rfl⟩
  · obtain ⟨p, dx, rfl, _⟩ := h
    rfl
  · have hu := hu_of hr
    refine ⟨_, PSs.nox (pss_one (ps_fld (pv 0) (pe_lst pa_nil) rfl)), ?_⟩
    obtain ⟨p, dx, rfl, hp, k⟩ := h
    refine ⟨Nat.zero_le _, fun l hl => ?_⟩
    have npl : p ≠ l := ne_of_none hp hl
    refine ⟨_, rfl, p, cNet K, dx, [], rfl, (by rw [upd_ne npl]; exact hp), T.cl_Net, T.n_Net__letters, (by show 0 < 1000; decide), ?_⟩
    rw [mk_Net]
    exact k l hl
def spNetLetters (K : PySem.W.Frag) : Sp := fun vs H Q _ => ∃ (n l : Addr) (ls : List V), vs = [.ref n] ∧ NetAt K H n l ls ∧ ∀ p, H p = none → Q (.ref p) (upd H p (.lst ls))
theorem sc_Net_letters : FnScope ["self"] ["self"] (defScope sNet_letters) := ⟨rfl, rfl, rfl, by decide +kernel, rfl, by decide +kernel, by decide +kernel⟩
abbrev Ok_Net_letters (P : Program) (w : World) (K : PySem.W.Frag) (mg : Str → Option Value) (base : Heap) : Prop := Has P w K mg base CX0 1 (fNet_letters K) ["self"] (spNetLetters K)
theorem ok_Net_letters {P : Program} {w : World} {K : PySem.W.Frag} {mg : Str → Option Value} {base : Heap} (T : Txt K mg) : Ok_Net_letters P w K mg base := by
  obtain ⟨fd, F⟩ := T.dNet_letters
  refine ⟨fd, FunD.ok (CX := CX0) F sc_Net_letters (fun vs H Q E h => ?_) (fun cdv A outer s H vs Q E hr h => ?_), FunD.bindsN F fun _ _ _ _ _ _ us hl => match us, hl with | [_], _ => rfl⟩
  · obtain ⟨n, l, ls, rfl, _⟩ := h
    rfl
  · have hu := hu_of hr
    refine ⟨_, PSs.nox (pss_one (ps_ret (pe_callTy call_list_of (by rfl) T.b_list (by decide +kernel) (pa_cons (pe_fld (pv 0) rfl) pa_nil)))), ?_⟩
    obtain ⟨n, l, ls, rfl, ⟨dx, h1, h2⟩, k⟩ := h
    refine ⟨_, rfl, n, cNet K, dx, _, _, rfl, h1, T.cl_Net, T.n_Net__letters, lk_Net_letters _, l, ls, rfl, .inl (SqL.of h2), fun p hp => k p hp⟩
def spNetSend (K : PySem.W.Frag) : Sp := fun vs H Q _ => ∃ (n l : Addr) (ls : List V) (v : V), vs = [.ref n, v] ∧ NetAt K H n l ls ∧ ls.length < sizeLine ∧ Q .non (upd H l (.lst (ls ++ [v])))
theorem sc_Net_send : FnScope ["self", "letter"] ["self", "letter"] (defScope sNet_send) := ⟨rfl, rfl, rfl, by decide +kernel, rfl, by decide +kernel, by decide +kernel⟩
abbrev Ok_Net_send (P : Program) (w : World) (K : PySem.W.Frag) (mg : Str → Option Value) (base : Heap) : Prop := Has P w K mg base CX0 1 (fNet_send K) ["self", "letter"] (spNetSend K)
theorem ok_Net_send {P : Program} {w : World} {K : PySem.W.Frag} {mg : Str → Option Value} {base : Heap} (T : Txt K mg) : Ok_Net_send P w K mg base := by
  obtain ⟨fd, F⟩ := T.dNet_send
  refine ⟨fd, FunD.ok (CX := CX0) F sc_Net_send (fun vs H Q E h => ?_) (fun cdv A outer s H vs Q E hr h => ?_), FunD.bindsN F fun _ _ _ _ _ _ us hl => match us, hl with | [_, _], _ => rfl⟩
  · obtain ⟨n, l, ls, v, rfl, _⟩ := h
    rfl
  · have hu := hu_of hr
    refine ⟨_, PSs.nox (pss_one (ps_expr (pe_bm PySem.F.plainAttrs_list PySem.F.slot_list_append PySem.F.type_list_append mt_append (pe_fld (pv 0) rfl) (pa_cons (pv 1) pa_nil)))), ?_⟩
    obtain ⟨n, l, ls, v, rfl, ⟨dx, h1, h2⟩, hz, k⟩ := h
    exact ⟨_, rfl, n, cNet K, dx, _, _, rfl, h1, T.cl_Net, T.n_Net__letters, lk_Net_letters _, .inl ⟨rfl, _, SqL.of h2⟩, _, rfl, l, ls, v, rfl, rfl, h2, hz, k⟩
def spNetAt (K : PySem.W.Frag) : Sp := fun vs H Q E => ∃ (n l : Addr) (ls : List V) (i : Nat), vs = [.ref n, .int i] ∧ NetAt K H n l ls ∧ (ls.length ≤ i → Err (xNoLetter K) H E) ∧ (∀ v, ls[i]? = some v → Q v H)
theorem sc_Net_at : FnScope ["self", "place"] ["self", "place"] (defScope sNet_at) := ⟨rfl, rfl, rfl, by decide +kernel, rfl, by decide +kernel, by decide +kernel⟩
abbrev Ok_Net_at (P : Program) (w : World) (K : PySem.W.Frag) (mg : Str → Option Value) (base : Heap) : Prop := Has P w K mg base (L2.CX P w) 1 (fNet_at K) ["self", "place"] (spNetAt K)
theorem ok_Net_at {P : Program} {w : World} {K : PySem.W.Frag} {mg : Str → Option Value} {base : Heap} (T : Txt K mg) : Ok_Net_at P w K mg base := by
  obtain ⟨fd, F⟩ := T.dNet_at
  refine ⟨fd, FunD.ok (CX := (L2.CX P w)) F sc_Net_at (fun vs H Q E h => ?_) (fun cdv A outer s H vs Q E hr h => ?_), FunD.bindsN F fun _ _ _ _ _ _ us hl => match us, hl with | [_, _], _ => rfl⟩
  · obtain ⟨n, l, ls, i, rfl, _⟩ := h
    rfl
  · have hu := hu_of hr
    refine ⟨_, (pss_cons (ps_if (PW.pt (pw_or (pt_cmpR op_lt (pv 1) pe_int (nomark _)) (pw_or1 (pt_cmpR op_ge (pv 1) (pe_callB call_len_seq (by rfl) T.b_len PySem.boot_len (pa_cons (pe_fld (pv 0) rfl) pa_nil)) (nomark _))))) (pss_one (ps_raise rfl (takes_of rfl rfl rfl rfl) (SkE.pmk_own1 PySem.F.excBase_ValueError T.x_NoLetter.1 T.g_NoLetter T.x_NoLetter.2.1 (raises_own T.x_NoLetter.2.2.1 T.x_NoLetter.2.2.2) (by exact rfl) pe_str))) pss_nil)
      (pss_one (ps_ret (pe_ix ix_list (pe_fld (pv 0) rfl) (pv 1) (fun _ _ => rfl))))), ?_⟩
    obtain ⟨n, l, ls, i, rfl, ⟨dx, h1, h2⟩, kE, kQ⟩ := h
    refine ⟨_, rfl, _, _, rfl, rfl, _, rfl, ifF (decide_eq_false (by omega)) ?_⟩
    refine ⟨_, rfl, _, rfl, n, cNet K, dx, _, _, rfl, h1, T.cl_Net, T.n_Net__letters, lk_Net_letters _, l, ls, rfl, .inl (SqL.of h2), _, _, rfl, rfl, _, rfl, ?_⟩
    refine ite2 (fun c => ?_) (fun c => ?_)
    · have c := of_decide_eq_true c
      exact kE (by omega) H (Same.refl H)
    · have c : ¬ ((ls.length : Int) ≤ (i : Int)) := fun z => c (decide_eq_true z)
      have hi : i < ls.length := by omega
      exact ⟨_, rfl, n, cNet K, dx, _, _, rfl, h1, T.cl_Net, T.n_Net__letters, lk_Net_letters _, _, rfl, l, _, _, _, rfl, rfl, SqL.of h2, atI_nat (List.getElem?_eq_getElem hi), kQ _ (List.getElem?_eq_getElem hi)⟩
def spNetTake (K : PySem.W.Frag) : Sp := fun vs H Q E => ∃ (n l : Addr) (ls : List V) (i : Nat), vs = [.ref n, .int i] ∧ NetAt K H n l ls ∧ i < 2 ^ 40 ∧ ls.length ≤ sizeLine ∧ (ls.length ≤ i → Err (xNoLetter K) H E) ∧
  (∀ v, ls[i]? = some v → ∀ H' l', (∀ b o, H b = some o → b ≠ n → H' b = some o) → H l' = none → NetAt K H' n l' (ls.eraseIdx i) → (∀ b, H b ≠ none → H' b ≠ none) → Q v H')
theorem sc_Net_take : FnScope ["self", "place", "letter"] ["self", "place"] (defScope sNet_take) := ⟨rfl, rfl, rfl, by decide +kernel, rfl, by decide +kernel, by decide +kernel⟩
abbrev Ok_Net_take (P : Program) (w : World) (K : PySem.W.Frag) (mg : Str → Option Value) (base : Heap) : Prop := Has P w K mg base (L2.CX P w) 2 (fNet_take K) ["self", "place"] (spNetTake K)
theorem ok_Net_take {P : Program} {w : World} {K : PySem.W.Frag} {mg : Str → Option Value} {base : Heap} (T : Txt K mg) (h_Net_at : Ok_Net_at P w K mg base) : Ok_Net_take P w K mg base := by
  obtain ⟨fd, F⟩ := T.dNet_take
  obtain ⟨fd_Net_at, G_Net_at, b_Net_at⟩ := h_Net_at
  refine ⟨fd, FunD.ok (CX := (L2.CX P w)) F sc_Net_take (fun vs H Q E h => ?_) (fun cdv A outer s H vs Q E hr h => ?_), FunD.bindsN F fun _ _ _ _ _ _ us hl => match us, hl with | [_, _], _ => rfl⟩
  · obtain ⟨n, l, ls, i, rfl, _⟩ := h
    rfl
  · have hu := hu_of hr
    refine ⟨_, (pss_cons (ps_set (i := 2) sc_Net_take.nd rfl (Or.inl rfl) (pe_meth (pv 0) T.cl_Net T.m_Net_at G_Net_at (hr.mono (by decide)) b_Net_at .nil (passes_call (takes_of rfl rfl rfl rfl) (fun _ _ _ _ z => z)) (pa_cons (pv 1) pa_nil)))
      (pss_cons (ps_fld (pv 0) (pe_op op_cat (pe_slice sl_list (pe_fld (pv 0) rfl) po_none (po_some (pv 1))) (pe_slice sl_list (pe_fld (pv 0) rfl) (po_some (pe_op op_add (pv 1) pe_int)) po_none)) rfl)
      (pss_one (ps_ret (pv 2))))), ?_⟩
    obtain ⟨n, l, ls, i, rfl, N, hi, hz, kE, kQ⟩ := h
    obtain ⟨dx, h1, h2⟩ := id N
    have nm : (netF l).lookup ("_at" : Str) = none := ln_Net_at _
    refine ⟨_, rfl, n, dx, _, rfl, h1, nm, _, rfl, n, l, ls, i, rfl, N, kE, fun v hv => ?_⟩
    have hil : i < ls.length := (List.getElem?_eq_some_iff.mp hv).1
    refine ⟨_, rfl, n, cNet K, dx, _, _, rfl, h1, T.cl_Net, T.n_Net__letters, lk_Net_letters _, _, rfl, _, rfl, l, ls, rfl, SqL.of h2, fun p hp => ?_⟩
    have hpn : n ≠ p := ne_of_none h1 hp
    have hpl : l ≠ p := ne_of_none h2 hp
    have h1' := (upd_ne (H := H) (o := .lst (cutV ls none (some (i : Int)))) hpn).trans h1
    have h2' := (upd_ne (H := H) (o := .lst (cutV ls none (some (i : Int)))) hpl).trans h2
    refine ⟨_, rfl, n, cNet K, dx, _, _, rfl, h1', T.cl_Net, T.n_Net__letters, lk_Net_letters _, ⟨_, rfl, _, _, rfl, rfl, _, rfl, l, ls, rfl, SqL.of h2', fun q hq => ?_⟩⟩
    have npq : p ≠ q := ne_of_none upd_same hq
    have hqH : H q = none := by
      by_cases e : q = p
      · rw [e]
        exact hp
      · rw [upd_ne e] at hq
        exact hq
    refine ⟨p, q, _, _, rfl, rfl, (upd_ne npq).trans upd_same, upd_same, ?_, fun r hr => ?_⟩
    · have a1 := cutV_length ls none (some (i : Int))
      have a2 := cutV_length ls (some ((i : Int) + 1)) none
      have e := congrArg List.length (cut_erase hil)
      rw [List.length_append, List.length_eraseIdx_of_lt hil] at e
      omega
    · rw [cut_erase hil]
      have hrp : p ≠ r := ne_of_none ((upd_ne npq).trans upd_same) hr
      have hrq : q ≠ r := ne_of_none upd_same hr
      have hrH : H r = none := by
        rw [upd_ne hrq.symm, upd_ne hrp.symm] at hr
        exact hr
      have nr : n ≠ r := ne_of_none h1 hrH
      have nq : n ≠ q := ne_of_none h1 hqH
      refine ⟨_, rfl, n, cNet K, dx, _, rfl, (upd_ne nr).trans ((upd_ne nq).trans h1'), T.cl_Net, T.n_Net__letters, (by show 1 < 1000; decide), ?_⟩
      rw [pt_Net_letters]
      refine ⟨_, rfl, kQ v hv _ r (fun b o e nb => ?_) hrH ⟨dx, upd_same, (upd_ne nr.symm).trans upd_same⟩ fun b hb => ?_⟩
      · rw [upd_ne nb, upd_ne (ne_of_none e hrH), upd_ne (ne_of_none e hqH), upd_ne (ne_of_none e hp)]
        exact e
      · cases e : H b with
        | none => exact absurd e hb
        | some o =>
          by_cases nb : b = n
          · rw [nb, upd_same]
            intro z
            cases z
          · rw [upd_ne nb, upd_ne (ne_of_none e hrH), upd_ne (ne_of_none e hqH), upd_ne (ne_of_none e hp), e]
            intro z
            cases z
def spNetDouble (K : PySem.W.Frag) : Sp := fun vs H Q E => ∃ (n l : Addr) (ls : List V) (i : Nat), vs = [.ref n, .int i] ∧ NetAt K H n l ls ∧ ls.length < sizeLine ∧ (ls.length ≤ i → Err (xNoLetter K) H E) ∧ (∀ v, ls[i]? = some v → Q .non (upd H l (.lst (ls ++ [v]))))
theorem sc_Net_double : FnScope ["self", "place"] ["self", "place"] (defScope sNet_double) := ⟨rfl, rfl, rfl, by decide +kernel, rfl, by decide +kernel, by decide +kernel⟩
abbrev Ok_Net_double (P : Program) (w : World) (K : PySem.W.Frag) (mg : Str → Option Value) (base : Heap) : Prop := Has P w K mg base (L2.CX P w) 2 (fNet_double K) ["self", "place"] (spNetDouble K)
theorem ok_Net_double {P : Program} {w : World} {K : PySem.W.Frag} {mg : Str → Option Value} {base : Heap} (T : Txt K mg) (h_Net_at : Ok_Net_at P w K mg base) : Ok_Net_double P w K mg base := by
  obtain ⟨fd, F⟩ := T.dNet_double
  obtain ⟨fd_Net_at, G_Net_at, b_Net_at⟩ := h_Net_at
  refine ⟨fd, FunD.ok (CX := (L2.CX P w)) F sc_Net_double (fun vs H Q E h => ?_) (fun cdv A outer s H vs Q E hr h => ?_), FunD.bindsN F fun _ _ _ _ _ _ us hl => match us, hl with | [_, _], _ => rfl⟩
  · obtain ⟨n, l, ls, i, rfl, _⟩ := h
    rfl
  · have hu := hu_of hr
    refine ⟨_, (pss_one (ps_expr (pe_bm PySem.F.plainAttrs_list PySem.F.slot_list_append PySem.F.type_list_append mt_append (pe_fld (pv 0) rfl) (pa_cons (pe_meth (pv 0) T.cl_Net T.m_Net_at G_Net_at (hr.mono (by decide)) b_Net_at .nil (passes_call (takes_of rfl rfl rfl rfl) (fun _ _ _ _ z => z)) (pa_cons (pv 1) pa_nil)) pa_nil)))), ?_⟩
    obtain ⟨n, l, ls, i, rfl, N, hz, kE, kQ⟩ := h
    obtain ⟨dx, h1, h2⟩ := id N
    have nm : (netF l).lookup ("_at" : Str) = none := ln_Net_at _
    refine ⟨_, rfl, n, cNet K, dx, _, _, rfl, h1, T.cl_Net, T.n_Net__letters, lk_Net_letters _, .inl ⟨rfl, _, SqL.of h2⟩, _, rfl, n, dx, _, rfl, h1, nm, _, rfl, n, l, ls, i, rfl, N, kE, fun v hv => ?_⟩
    exact ⟨l, ls, v, rfl, rfl, h2, hz, kQ v hv⟩
end LH
namespace LH
open PySem PySem.Spec PyProof.Rows L2
/-! ### the rules with the written part named (for a comprehension's block) -/
section
variable {X : Cx} {K : PySem.W.Frag}
theorem pe_fldB {e : Expr} {ta : TE} {f : Str} {pos : Pos} (hK : X.K = K) (he : PE X e ta) (hb : attributeBase e f X.env (eval e X.env) = eval e X.env) : PE X (.Attribute e f pos) (tFld K ta f) := by
  have q := pe_fld (pos := pos) he hb
  rw [hK] at q
  exact q
theorem ix_listB (hK : X.K = K) : IxR X (rIxL K) := by
  have q := ix_list (X := X)
  rw [hK] at q
  exact q
theorem ix_tupB (hK : X.K = K) : IxR X (rIxT K) := by
  have q := ix_tup (X := X)
  rw [hK] at q
  exact q
theorem call_len_seqB (hK : X.K = K) : CallR X (.builtin "len") (fun xs H Q => ∃ p ys, xs = [.ref p] ∧ (SqL K H p ys ∨ SqT K H p ys) ∧ Q (.int ys.length) H) := by
  have q := call_len_seq (X := X)
  rw [hK] at q
  exact q
theorem pt_truthB {a : Expr} {ta : TE} (hK : X.K = K) (ha : PE X a ta) (he : ∀ whole, isTrue a X.env whole = (do let v ← whole; standAt a.pos; holding [v] (truthy v))) : PT X a (fun σ H Q => ta σ H fun x H' => ∃ k, TruV K x H' k ∧ Q k H') := by
  have q := pt_truth ha he
  rw [hK] at q
  exact q
theorem pg_tupB {es : List Expr} {k : Nat} {t : TGs} {n : Nat} {pos : Pos} (hK : X.K = K) (hc : X.calm = true) (h : PGs X es t)
    (hn : (assignEach es X.env).length = n := by rfl) (hst : (assignEach es X.env).findIdx? (·.1) = none := by rfl) : PG X (.Tuple es k pos) (gTup K n t) := by
  have q := pg_tup (X := X) (k := k) (pos := pos) hc h hn hst
  rw [hK] at q
  exact q
theorem op_notInDB (hK : X.K = K) (hu : X.A.units + 65 < cLine) : OpR X (compareOp .NotIn) (rNotInD K) := by
  have q := op_notInD (X := X) hu
  rw [hK] at q
  exact q
end
/-! ### texts -/
theorem call_str_any {X : Cx} : CallR X (.type "str") (fun xs H Q => (∃ i, xs = [.int i] ∧ i.natAbs.log2 < 1920 ∧ Q (.str (toString i)) H) ∨ ∃ a, xs = [.str a] ∧ Q (.str a) H) := CallR.or call_str_int SkE.call_str_str
def num (i : Int) : Str := Str.ofString (toString i)
def idf (o : Str) (k : Int) : Str := (o ++ ("-" : Str)) ++ num k
def names4 : List Str := ["ash", "bay", "elm", "oak"]
theorem Qb {Q : VK} {H : Hp} {b c : Bool} (e : c = b) (h : Q (.bl b) H) : Q (.bl c) H := by
  rw [e]
  exact h
/-- over the signs of a text -/
theorem for_signs {x : Str} {g : TG} {tb : TS} {D : Ends} {σ : L2.St} {H : Hp} (Pv : Nat → L2.St → Hp → Prop) (h0 : Pv 0 σ H)
    (hs : ∀ i c σ H, x.cps[i]? = some c → Pv i σ H → g (.str ⟨#[c]⟩) σ H fun σ2 H2 => tb { D with nx := Pv (i + 1), ct := Pv (i + 1), bk := D.nx } σ2 H2) (hd : ∀ σ H, Pv x.cps.size σ H → D.nx σ H) :
    ∃ W : Nat → Nat → L2.St → Hp → Prop, (∃ m, W 0 m σ H) ∧ ∀ i m σ H, W i m σ H →
      ((Its x).stop i H ∧ D.nx σ H) ∨ ((Its x).go i H ∧ ∃ N : L2.St → Hp → Prop, (∀ σ' H', N σ' H' → ∃ m', m' < m ∧ W (i + 1) m' σ' H') ∧ ∀ v H', (Its x).yld i H v H' → g v σ H' fun σ2 H2 => tb { D with nx := N, ct := N, bk := D.nx } σ2 H2) := by
  refine ⟨fun i m σ H => m = x.cps.size - i ∧ i ≤ x.cps.size ∧ Pv i σ H, ⟨_, rfl, Nat.zero_le _, h0⟩, ?_⟩
  rintro i m σ H ⟨rfl, hi, p⟩
  by_cases hlt : i < x.cps.size
  · refine .inr ⟨hlt, Pv (i + 1), fun σ' H' p' => ⟨x.cps.size - (i + 1), by omega, rfl, hlt, p'⟩, fun v H' y => ?_⟩
    obtain ⟨rfl, c, hc, rfl⟩ := y
    exact hs i c σ _ hc p
  · have e : i = x.cps.size := by omega
    subst e
    exact .inl ⟨Nat.le_refl _, hd σ H p⟩
def spIsOffice : Sp := fun vs H Q _ => ∃ o, vs = [.str o] ∧ o ∈ names4 ∧ Q (.bl true) H
theorem ok_signs : ∀ o ∈ names4, o.length = 3 ∧ ∀ c ∈ o.cps.toList, c ∈ ("abcdefghijklmnopqrstuvwxyz" : Str).cps.toList := by decide +kernel
theorem sc_is_office : FnScope ["text", "sign"] ["text"] (defScope s_is_office) := ⟨rfl, rfl, rfl, by decide +kernel, rfl, by decide +kernel, by decide +kernel⟩
abbrev Ok_is_office (P : Program) (w : World) (K : PySem.W.Frag) (mg : Str → Option Value) (base : Heap) : Prop := Has P w K mg base CX0 1 (f_is_office K) ["text"] (spIsOffice)
theorem ok_is_office {P : Program} {w : World} {K : PySem.W.Frag} {mg : Str → Option Value} {base : Heap} (T : Txt K mg) : Ok_is_office P w K mg base := by
  obtain ⟨fd, F⟩ := T.d_is_office
  obtain ⟨tLETTERS, hLETTERS⟩ := T.s_LETTERS
  refine ⟨fd, FunD.ok (CX := CX0) F sc_is_office (fun vs H Q E h => ?_) (fun cdv A outer s H vs Q E hr h => ?_), FunD.bindsN F fun _ _ _ _ _ _ us hl => match us, hl with | [_], _ => rfl⟩
  · obtain ⟨o, rfl, _⟩ := h
    rfl
  · have hu := hu_of hr
    refine ⟨_, PSs.nox (pss_cons (ps_for PassesOwn.never rfl (pi_str (pv 0)) (pg_name (i := 1) sc_is_office.nd rfl (Or.inl rfl)) (pss_one (ps_if (pt_cmpR op_notIn_sign (pv 1) (pe_glob (v := .str "abcdefghijklmnopqrstuvwxyz") rfl hLETTERS ⟨_, rfl⟩) (by rfl)) (pss_one (ps_ret pe_bl)) pss_nil)))
      (pss_one (ps_ret (pe_chain op_le op_le pe_int (pe_callB call_len_str (by rfl) T.b_len PySem.boot_len (pa_cons (pv 0) pa_nil)) pe_int)))), ?_⟩
    obtain ⟨o, rfl, ho, k⟩ := h
    obtain ⟨h3, hs⟩ := ok_signs o ho
    have hz : o.length ≤ sizeLine := by
      rw [h3, sizeLine_eq]
      decide
    refine ⟨_, rfl, o, rfl, for_signs (fun i σ H' => ∃ v, σ = [some (.str o), v] ∧ H' = H) ⟨_, rfl, rfl⟩ ?_ ?_⟩
    · rintro i c σ H' hc ⟨v, rfl, rfl⟩
      have hm : c ∈ o.cps.toList := by
        have q := Array.getElem?_eq_some_iff.mp hc
        obtain ⟨hi, e⟩ := q
        rw [← e]
        exact Array.mem_toList_iff.mpr (Array.getElem_mem hi)
      refine ⟨_, rfl, c, _, rfl, rfl, _, rfl, ifF ?_ ⟨_, rfl, rfl⟩⟩
      rw [decide_eq_true (hs c hm)]
      rfl
    · rintro σ H' ⟨v, rfl, rfl⟩
      refine ⟨_, rfl, o, rfl, hz, _, _, rfl, rfl, _, rfl, ifT (decide_eq_true (by omega)) ⟨_, _, rfl, rfl, ?_⟩⟩
      exact Qb (decide_eq_true (show (o.length : Int) ≤ 12 by omega)) k
def spIdOf : Sp := fun vs H Q _ => ∃ (o : Str) (n : Int), vs = [.str o, .int n] ∧ o.length ≤ 100 ∧ n.natAbs.log2 < 1920 ∧ Q (.str (idf o n)) H
theorem app_len (a b : Str) : (a ++ b).length = a.length + b.length := by
  show (a.cps ++ b.cps).size = _
  rw [Array.size_append]
  rfl
theorem dash_len : (("-" : Str)).length = 1 := by decide +kernel
theorem line16 {n : Nat} (h : n ≤ 16000000) : n ≤ sizeLine := by
  rw [sizeLine_eq]
  omega
theorem num_len {n : Int} (h : n.natAbs.log2 < 1920) : (num n).length ≤ 1921 := int_text_len_1921 h
theorem sc_id_of : FnScope ["office", "number"] ["office", "number"] (defScope s_id_of) := ⟨rfl, rfl, rfl, by decide +kernel, rfl, by decide +kernel, by decide +kernel⟩
abbrev Ok_id_of (P : Program) (w : World) (K : PySem.W.Frag) (mg : Str → Option Value) (base : Heap) : Prop := Has P w K mg base CX0 1 (f_id_of K) ["office", "number"] (spIdOf)
theorem ok_id_of {P : Program} {w : World} {K : PySem.W.Frag} {mg : Str → Option Value} {base : Heap} (T : Txt K mg) : Ok_id_of P w K mg base := by
  obtain ⟨fd, F⟩ := T.d_id_of
  refine ⟨fd, FunD.ok (CX := CX0) F sc_id_of (fun vs H Q E h => ?_) (fun cdv A outer s H vs Q E hr h => ?_), FunD.bindsN F fun _ _ _ _ _ _ us hl => match us, hl with | [_, _], _ => rfl⟩
  · obtain ⟨o, n, rfl, _⟩ := h
    rfl
  · have hu := hu_of hr
    refine ⟨_, PSs.nox (pss_one (ps_ret (pe_op op_add_str (pe_op op_add_str (pv 0) pe_str) (pe_callTy call_str_int (by rfl) T.b_str (by decide +kernel) (pa_cons (pv 1) pa_nil))))), ?_⟩
    obtain ⟨o, n, rfl, ho, hn, k⟩ := h
    have h1 := num_len hn
    have h2 := dash_len
    have h3 := app_len o "-"
    refine ⟨_, rfl, o, _, rfl, rfl, line16 (by omega), _, rfl, n, rfl, hn, _, _, rfl, rfl, line16 ?_, k⟩
    show (o ++ ("-" : Str)).length + (num n).length ≤ _
    omega
theorem take_snoc {α : Type} : ∀ {l : List α} {i : Nat} {x : α}, l[i]? = some x → l.take (i + 1) = l.take i ++ [x]
  | [], i, x, h => by cases h
  | a :: l, 0, x, h => by
    injection h with h
    subst h
    rfl
  | a :: l, i + 1, x, h => by
    have ih := take_snoc (l := l) (i := i) (x := x) h
    show a :: l.take (i + 1) = a :: l.take i ++ [x]
    rw [ih]
    rfl
/-- a word of a line -/
def Wd : V → Prop
  | .str z => z.length ≤ 4000
  | .int i => i.natAbs.log2 < 1920
  | _ => False
def wtx : V → Str
  | .str z => z
  | .int i => num i
  | _ => ""
theorem wtx_len : ∀ {v : V}, Wd v → (wtx v).length ≤ 4000
  | .str z, h => h
  | .int i, h => Nat.le_trans (num_len h) (by decide)
def spFormat : Sp := fun vs H Q _ => ∃ (a : Addr) (xs : List V), vs = [.ref a] ∧ H a = some (.tup xs) ∧ xs.length ≤ 1000 ∧ (∀ v ∈ xs, Wd v) ∧ ∀ H', Same H H' → ∀ z, Q (.str z) H'
theorem sum_le : ∀ {l : List Str}, (∀ z ∈ l, z.length ≤ 4000) → (l.map (·.length)).sum ≤ l.length * 4000
  | [], _ => Nat.le_refl _
  | a :: r, h => by
    have h1 := h a List.mem_cons_self
    have h2 := sum_le (l := r) fun z hz => h z (List.mem_cons_of_mem _ hz)
    rw [List.map_cons, List.sum_cons, List.length_cons]
    omega
theorem sc_format_line : FnScope ["row", "value"] ["row"] (defScope s_format_line) := ⟨rfl, rfl, rfl, by decide +kernel, rfl, by decide +kernel, by decide +kernel⟩
abbrev Ok_format_line (P : Program) (w : World) (K : PySem.W.Frag) (mg : Str → Option Value) (base : Heap) : Prop := Has P w K mg base CX0 1 (f_format_line K) ["row"] (spFormat)
theorem ok_format_line {P : Program} {w : World} {K : PySem.W.Frag} {mg : Str → Option Value} {base : Heap} (T : Txt K mg) : Ok_format_line P w K mg base := by
  obtain ⟨fd, F⟩ := T.d_format_line
  refine ⟨fd, FunD.ok (CX := CX0) F sc_format_line (fun vs H Q E h => ?_) (fun cdv A outer s H vs Q E hr h => ?_), FunD.bindsN F fun _ _ _ _ _ _ us hl => match us, hl with | [_], _ => rfl⟩
  · obtain ⟨a, xs, rfl, _⟩ := h
    rfl
  · have hu := hu_of hr
    refine ⟨_, PSs.nox (pss_one (ps_ret (pe_join pe_str (pe_lc (own := [("value", 1)]) (g := gName 1) (tt := tYes) (by rfl) sc_format_line.nd (pi_tup (pv 0)) (blkOk_by (own := [("value", 1)]) (N := ["row", "value"]) (sc := defScope s_format_line) (by decide +kernel)) (fun _ _ _ _ _ => (pg_name (i := 1) sc_format_line.nd rfl (Or.inl rfl))) (fun _ _ _ _ _ => pts_nil) (fun _ _ _ _ _ => (by exact (pe_callTy call_str_any (by rfl) T.b_str (by decide +kernel) (by exact (pa_cons (pv 1) pa_nil))))))))), ?_⟩
    obtain ⟨a, xs, rfl, ha, hl, hw, k⟩ := h
    refine ⟨⟨_, rfl⟩, _, rfl, a, rfl, ⟨_, SqT.of ha⟩, fun D hD => lc_tup (K := K) (a := a) (xs := xs) (fun i H' => H' = upd H D (.lst ((xs.take i).map fun v => V.str (wtx v)))) rfl (fun i H' _ hh => ?_) (fun i x H' hx hh => ?_) (fun H' hh => ?_)⟩
    · subst hh
      exact SqT.of ((upd_ne (ne_of_none ha hD)).trans ha)
    · subst hh
      have hm := List.mem_of_getElem? hx
      have hi := (List.getElem?_eq_some_iff.mp hx).1
      have hw1 := hw x hm
      have tk : (xs.take (i + 1)).map (fun v => V.str (wtx v)) = (xs.take i).map (fun v => V.str (wtx v)) ++ [.str (wtx x)] := by
        rw [take_snoc hx, List.map_append]
        rfl
      have fin : ∃ acc, (upd H D (.lst ((xs.take i).map fun v => V.str (wtx v)))) D = some (.lst acc) ∧ acc.length < sizeLine ∧
          upd (upd H D (.lst ((xs.take i).map fun v => V.str (wtx v)))) D (.lst (acc ++ [.str (wtx x)])) = upd H D (.lst ((xs.take (i + 1)).map fun v => V.str (wtx v))) := by
        refine ⟨_, upd_same, ?_, ?_⟩
        · rw [List.length_map, List.length_take]
          refine small1000 ?_
          omega
        · rw [upd_upd, tk]
      refine ⟨rfl, _, rfl, ?_⟩
      cases x with
      | str z => exact .inr ⟨z, rfl, fin⟩
      | int n => exact .inl ⟨n, rfl, hw1, fin⟩
      | _ => exact False.elim hw1
    · subst hh
      rw [List.take_length]
      refine ⟨_, D, xs.map wtx, rfl, rfl, .inl ?_, ?_, k _ (Same.upd hD) _⟩
      · rw [List.map_map]
        exact SqL.of upd_same
      · have q := sum_le (l := xs.map wtx) fun z hz => by
          obtain ⟨v, hv, rfl⟩ := List.mem_map.mp hz
          exact wtx_len (hw v hv)
        have q2 : ((" " : Str)).length = 1 := by decide +kernel
        rw [List.length_map] at q ⊢
        rw [q2]
        omega
def spWhole : Sp := fun vs H Q _ => vs = [.str ""] ∧ ∀ p H', Same H H' → H p = none → H' p = some (.lst []) → Q (.ref p) H'
theorem sc_whole_lines : FnScope ["text"] ["text"] (defScope s_whole_lines) := ⟨rfl, rfl, rfl, by decide +kernel, rfl, by decide +kernel, by decide +kernel⟩
abbrev Ok_whole_lines (P : Program) (w : World) (K : PySem.W.Frag) (mg : Str → Option Value) (base : Heap) : Prop := Has P w K mg base CX0 1 (f_whole_lines K) ["text"] (spWhole)
theorem ok_whole_lines {P : Program} {w : World} {K : PySem.W.Frag} {mg : Str → Option Value} {base : Heap} (T : Txt K mg) : Ok_whole_lines P w K mg base := by
  obtain ⟨fd, F⟩ := T.d_whole_lines
  refine ⟨fd, FunD.ok (CX := CX0) F sc_whole_lines (fun vs H Q E h => ?_) (fun cdv A outer s H vs Q E hr h => ?_), FunD.bindsN F fun _ _ _ _ _ _ us hl => match us, hl with | [_], _ => rfl⟩
  · obtain ⟨rfl, _⟩ := h
    rfl
  · have hu := hu_of hr
    refine ⟨_, PSs.nox (pss_one (ps_ret (pe_slice sl_list (pe_split (pv 0) pe_str) po_none (po_some (pe_un un_neg pe_int))))), ?_⟩
    obtain ⟨rfl, k⟩ := h
    have e0 : Txt.split (("" : Str)) (("\n" : Str)) = ([("" : Str)] : List Str) := by decide +kernel
    refine ⟨_, rfl, ⟨_, rfl⟩, _, _, rfl, rfl, by decide +kernel, by rw [sizeLine_eq]; decide +kernel, fun p hp => ?_⟩
    rw [e0]
    refine ⟨_, rfl, _, rfl, p, _, rfl, SqL.of upd_same, fun r hr => ?_⟩
    have hpr : p ≠ r := ne_of_none upd_same hr
    have hrH : H r = none := by
      rw [upd_ne hpr.symm] at hr
      exact hr
    refine k r _ (fun b o e => ?_) hrH ?_
    · rw [upd_ne (ne_of_none e hrH), upd_ne (ne_of_none e hp)]
      exact e
    · rw [upd_same]
      rfl
def spParse : Sp := fun vs H Q _ => vs = [.str ""] ∧ ∀ p H', Same H H' → H p = none → H' p = some (.lst []) → Q (.ref p) H'
theorem sc_parse_journal : FnScope ["text", "rows", "line", "row"] ["text"] (defScope s_parse_journal) := ⟨rfl, rfl, rfl, by decide +kernel, rfl, by decide +kernel, by decide +kernel⟩
abbrev Ok_parse_journal (P : Program) (w : World) (K : PySem.W.Frag) (mg : Str → Option Value) (base : Heap) : Prop := Has P w K mg base CX0 2 (f_parse_journal K) ["text"] (spParse)
theorem ok_parse_journal {P : Program} {w : World} {K : PySem.W.Frag} {mg : Str → Option Value} {base : Heap} (T : Txt K mg) (h_whole_lines : Ok_whole_lines P w K mg base) : Ok_parse_journal P w K mg base := by
  obtain ⟨fd, F⟩ := T.d_parse_journal
  obtain ⟨fd_whole_lines, G_whole_lines, b_whole_lines⟩ := h_whole_lines
  have k_whole_lines : PySem.W.keepIn K (.ref (f_whole_lines K)) = true := by
    obtain ⟨_, q⟩ := T.d_whole_lines
    exact q.kp
  refine ⟨fd, FunD.ok (CX := CX0) F sc_parse_journal (fun vs H Q E h => ?_) (fun cdv A outer s H vs Q E hr h => ?_), FunD.bindsN F fun _ _ _ _ _ _ us hl => match us, hl with | [_], _ => rfl⟩
  · obtain ⟨rfl, _⟩ := h
    rfl
  · have hu := hu_of hr
    refine ⟨_, PSs.nox (pss_cons (ps_set (i := 1) sc_parse_journal.nd rfl (Or.inl rfl) (pe_lst pa_nil))
      (pss_cons (ps_for PassesOwn.never rfl (pi_list (pe_call G_whole_lines (hr.mono (by decide)) rfl T.g_whole_lines k_whole_lines b_whole_lines .nil pass0 (pa_cons (pv 0) pa_nil))) (pg_name (i := 2) sc_parse_journal.nd rfl (Or.inl rfl)) pss_never)
      (pss_one (ps_ret (pv 1))))), ?_⟩
    obtain ⟨rfl, k⟩ := h
    refine ⟨Nat.zero_le _, fun p hp => ⟨_, rfl, rfl, fun r H' sm hr hn => ?_⟩⟩
    have hpr : p ≠ r := ne_of_none upd_same hr
    have hrH : H r = none := by
      rw [upd_ne hpr.symm] at hr
      exact hr
    refine ⟨r, rfl, ⟨_, SqL.of hn⟩, for_list (K := K) (a := r) (xs := []) (fun i σ H2 => σ = [some (.str ""), some (.ref p), none, none] ∧ H2 = H') ⟨rfl, rfl⟩ (fun i σ H2 _ q => by rw [q.2]; exact SqL.of hn) (fun i x σ H2 hx _ => by cases hx) ?_⟩
    rintro σ H2 ⟨rfl, rfl⟩
    exact ⟨_, rfl, k p _ (fun b o e => sm b o (by rw [upd_ne (ne_of_none e hp)]; exact e)) hp (sm _ _ upd_same)⟩
def spCheckQ (K : PySem.W.Frag) : Sp := fun vs H Q E => ∃ q : Int, vs = [.int q] ∧ ((1 ≤ q ∧ q ≤ 1000000000) → Q .non H) ∧ (¬ (1 ≤ q ∧ q ≤ 1000000000) → E (.ref (xInvalidQuantity K)) none H)
end LH
namespace LH
open PySem PySem.Spec PyProof.Rows L2
theorem sc_check_quantity : FnScope ["quantity"] ["quantity"] (defScope s_check_quantity) := ⟨rfl, rfl, rfl, by decide +kernel, rfl, by decide +kernel, by decide +kernel⟩
abbrev Ok_check_quantity (P : Program) (w : World) (K : PySem.W.Frag) (mg : Str → Option Value) (base : Heap) : Prop := Has P w K mg base (L2.CX P w) 1 (f_check_quantity K) ["quantity"] (spCheckQ K)
theorem ok_check_quantity {P : Program} {w : World} {K : PySem.W.Frag} {mg : Str → Option Value} {base : Heap} (T : Txt K mg) : Ok_check_quantity P w K mg base := by
  obtain ⟨fd, F⟩ := T.d_check_quantity
  obtain ⟨tMOST, hMOST⟩ := T.i_MOST
  refine ⟨fd, FunD.ok (CX := (L2.CX P w)) F sc_check_quantity (fun vs H Q E h => ?_) (fun cdv A outer s H vs Q E hr h => ?_), FunD.bindsN F fun _ _ _ _ _ _ us hl => match us, hl with | [_], _ => rfl⟩
  · obtain ⟨q, rfl, _⟩ := h
    rfl
  · have hu := hu_of hr
    refine ⟨_, (pss_one (ps_if (PW.pt (pw_or (pt_val (pe_callB call_isi (by rfl) T.b_isinstance (by decide +kernel) (pa_cons (pv 0) (pa_cons (pe_bltn (v := .ty "bool") (by rfl) T.b_bool (by decide +kernel) rfl) pa_nil)))) (pw_or (pt_not (pt_val (pe_callB call_isi (by rfl) T.b_isinstance (by decide +kernel) (pa_cons (pv 0) (pa_cons (pe_bltn (v := .ty "int") (by rfl) T.b_int (by decide +kernel) rfl) pa_nil))))) (pw_or1 (pt_not (pt_chain op_le op_le pe_int (pv 0) (pe_glob (v := .int 1000000000) rfl hMOST ⟨_, rfl⟩))))))) (pss_one (ps_raise rfl (takes_of rfl rfl rfl rfl) (SkE.pmk_own1 PySem.F.excBase_ValueError T.x_InvalidQuantity.1 T.g_InvalidQuantity T.x_InvalidQuantity.2.1 (raises_own T.x_InvalidQuantity.2.2.1 T.x_InvalidQuantity.2.2.2) (by exact rfl) pe_str))) pss_nil)), ?_⟩
    obtain ⟨q, rfl, kQ, kE⟩ := h
    refine ⟨_, rfl, _, _, _, _, false, rfl, .ty _, .base (.int q), kit_ty (by decide +kernel), _, rfl, iteF ?_⟩
    refine ⟨_, rfl, _, _, _, _, true, rfl, .ty _, .base (.int q), kit_ty (by decide +kernel), _, rfl, iteF ?_⟩
    refine ⟨_, rfl, _, _, rfl, rfl, _, rfl, ?_⟩
    by_cases c1 : 1 ≤ q
    · refine ifT (decide_eq_true c1) ⟨_, _, rfl, rfl, _, rfl, ?_⟩
      by_cases c2 : q ≤ 1000000000
      · exact ifF (by rw [decide_eq_true c2]; rfl) (kQ ⟨c1, c2⟩)
      · exact ifT (by rw [decide_eq_false c2]; rfl) (kE fun z => c2 z.2)
    · exact ifF (decide_eq_false c1) ⟨_, rfl, ifT rfl (kE fun z => c1 z.1)⟩
/-! ### entries -/
def spEntInit (K : PySem.W.Frag) : Sp := fun vs H Q _ => ∃ (p dx : Addr) (t : Str), vs = [.ref p, .str t] ∧ H p = some (.ins (cEntry K) dx []) ∧
  ∀ c H', H c = none → c ≠ p → H' p = some (.ins (cEntry K) dx (entF t Ent.new c)) → H' c = some (.lst []) → (∀ b, b ≠ p → b ≠ c → H' b = H b) → Q .non H'
theorem sc_Entry_init : FnScope ["self", "thing"] ["self", "thing"] (defScope sEntry_init) := ⟨rfl, rfl, rfl, by decide +kernel, rfl, by decide +kernel, by decide +kernel⟩
abbrev Ok_Entry_init (P : Program) (w : World) (K : PySem.W.Frag) (mg : Str → Option Value) (base : Heap) : Prop := Has P w K mg base CX0 1 (fEntry_init K) ["self", "thing"] (spEntInit K)
theorem ok_Entry_init {P : Program} {w : World} {K : PySem.W.Frag} {mg : Str → Option Value} {base : Heap} (T : Txt K mg) : Ok_Entry_init P w K mg base := by
  obtain ⟨fd, F⟩ := T.dEntry_init
  refine ⟨fd, FunD.ok (CX := CX0) F sc_Entry_init (fun vs H Q E h => ?_) (fun cdv A outer s H vs Q E hr h => ?_), FunD.bindsN F fun _ _ _ _ _ _ us hl => match us, hl with | [_, _], _ => rfl⟩
  · obtain ⟨p, dx, t, rfl, _⟩ := h
    rfl
  · have hu := hu_of hr
    refine ⟨_, PSs.nox (pss_cons (ps_fld (pv 0) (pv 1) rfl)
      (pss_cons (ps_fld (pv 0) pe_non rfl)
      (pss_cons (ps_fld (pv 0) pe_int rfl)
      (pss_cons (ps_fld (pv 0) pe_int rfl)
      (pss_cons (ps_fld (pv 0) pe_str rfl)
      (pss_cons (ps_fld (pv 0) pe_non rfl)
      (pss_cons (ps_fld (pv 0) (pe_lst pa_nil) rfl)
      (pss_cons (ps_fld (pv 0) pe_bl rfl)
      (pss_cons (ps_fld (pv 0) pe_bl rfl)
      (pss_cons (ps_fld (pv 0) pe_bl rfl)
      (pss_one (ps_fld (pv 0) pe_bl rfl)))))))))))), ?_⟩
    obtain ⟨p, dx, t, rfl, hp, k⟩ := h
    refine ⟨_, rfl, _, rfl, p, cEntry K, dx, _, rfl, hp, T.cl_Entry, T.n_Entry_thing, (of_decide_eq_true (by kernel_rfl)), ?_⟩
    refine ⟨_, rfl, p, cEntry K, dx, _, rfl, upd_same, T.cl_Entry, T.n_Entry_home, (of_decide_eq_true (by kernel_rfl)), ?_⟩
    refine ⟨_, rfl, p, cEntry K, dx, _, rfl, upd_same, T.cl_Entry, T.n_Entry_quantity, (of_decide_eq_true (by kernel_rfl)), ?_⟩
    refine ⟨_, rfl, p, cEntry K, dx, _, rfl, upd_same, T.cl_Entry, T.n_Entry_epoch, (of_decide_eq_true (by kernel_rfl)), ?_⟩
    refine ⟨_, rfl, p, cEntry K, dx, _, rfl, upd_same, T.cl_Entry, T.n_Entry_state, (of_decide_eq_true (by kernel_rfl)), ?_⟩
    refine ⟨_, rfl, p, cEntry K, dx, _, rfl, upd_same, T.cl_Entry, T.n_Entry_receiver, (of_decide_eq_true (by kernel_rfl)), ?_⟩
    refine ⟨Nat.zero_le _, fun c hc => ?_⟩
    have cp : p ≠ c := ne_of_none upd_same hc
    have hcH : H c = none := by
      rw [upd_ne cp.symm, upd_ne cp.symm, upd_ne cp.symm, upd_ne cp.symm, upd_ne cp.symm, upd_ne cp.symm] at hc
      exact hc
    refine ⟨_, rfl, p, cEntry K, dx, _, rfl, (upd_ne cp).trans upd_same, T.cl_Entry, T.n_Entry_children, (of_decide_eq_true (by kernel_rfl)), ?_⟩
    refine ⟨_, rfl, p, cEntry K, dx, _, rfl, upd_same, T.cl_Entry, T.n_Entry_is_recalled, (of_decide_eq_true (by kernel_rfl)), ?_⟩
    refine ⟨_, rfl, p, cEntry K, dx, _, rfl, upd_same, T.cl_Entry, T.n_Entry_is_received, (of_decide_eq_true (by kernel_rfl)), ?_⟩
    refine ⟨_, rfl, p, cEntry K, dx, _, rfl, upd_same, T.cl_Entry, T.n_Entry_is_noted, (of_decide_eq_true (by kernel_rfl)), ?_⟩
    refine ⟨_, rfl, p, cEntry K, dx, _, rfl, upd_same, T.cl_Entry, T.n_Entry_is_paid, (of_decide_eq_true (by kernel_rfl)), ?_⟩
    refine k c _ hcH cp.symm (upd_same.trans (congrArg (fun z => some (HO.ins (cEntry K) dx z)) (mk_Entry t c))) ?_ fun b nb nc => ?_
    · rw [upd_ne cp.symm, upd_ne cp.symm, upd_ne cp.symm, upd_ne cp.symm, upd_ne cp.symm, upd_same]
    · rw [upd_ne nb, upd_ne nb, upd_ne nb, upd_ne nb, upd_ne nb, upd_ne nc, upd_ne nb, upd_ne nb, upd_ne nb, upd_ne nb, upd_ne nb, upd_ne nb]
def spEntBegin (K : PySem.W.Frag) : Sp := fun vs H Q _ => ∃ (p dx c : Addr) (t : Str) (e : Ent) (h : Option Str) (q n : Int), vs = [.ref p, optV h, .int q, .int n] ∧ H p = some (.ins (cEntry K) dx (entF t e c)) ∧
  Q .non (upd H p (.ins (cEntry K) dx (entF t { e with home := h, qty := q, ep := n, st := .held } c)))
theorem sc_Entry_begin : FnScope ["self", "home", "quantity", "epoch"] ["self", "home", "quantity", "epoch"] (defScope sEntry_begin) := ⟨rfl, rfl, rfl, by decide +kernel, rfl, by decide +kernel, by decide +kernel⟩
abbrev Ok_Entry_begin (P : Program) (w : World) (K : PySem.W.Frag) (mg : Str → Option Value) (base : Heap) : Prop := Has P w K mg base CX0 1 (fEntry_begin K) ["self", "home", "quantity", "epoch"] (spEntBegin K)
theorem ok_Entry_begin {P : Program} {w : World} {K : PySem.W.Frag} {mg : Str → Option Value} {base : Heap} (T : Txt K mg) : Ok_Entry_begin P w K mg base := by
  obtain ⟨fd, F⟩ := T.dEntry_begin
  refine ⟨fd, FunD.ok (CX := CX0) F sc_Entry_begin (fun vs H Q E h => ?_) (fun cdv A outer s H vs Q E hr h => ?_), FunD.bindsN F fun _ _ _ _ _ _ us hl => match us, hl with | [_, _, _, _], _ => rfl⟩
  · obtain ⟨p, dx, c, t, e, h, q, n, rfl, _⟩ := h
    rfl
  · have hu := hu_of hr
    refine ⟨_, PSs.nox (pss_cons (ps_fld (pv 0) (pv 1) rfl)
      (pss_cons (ps_fld (pv 0) (pv 2) rfl)
      (pss_cons (ps_fld (pv 0) (pv 3) rfl)
      (pss_one (ps_fld (pv 0) pe_str rfl))))), ?_⟩
    obtain ⟨p, dx, c, t, e, h, q, n, rfl, hp, k⟩ := h
    refine ⟨_, rfl, _, rfl, p, cEntry K, dx, _, rfl, hp, T.cl_Entry, T.n_Entry_home, (of_decide_eq_true (by kernel_rfl)), ?_⟩
    rw [pt_Entry_home]
    refine ⟨_, rfl, _, rfl, p, cEntry K, dx, _, rfl, upd_same, T.cl_Entry, T.n_Entry_quantity, (of_decide_eq_true (by kernel_rfl)), ?_⟩
    rw [pt_Entry_quantity, upd_upd]
    refine ⟨_, rfl, _, rfl, p, cEntry K, dx, _, rfl, upd_same, T.cl_Entry, T.n_Entry_epoch, (of_decide_eq_true (by kernel_rfl)), ?_⟩
    rw [pt_Entry_epoch, upd_upd]
    refine ⟨_, rfl, p, cEntry K, dx, _, rfl, upd_same, T.cl_Entry, T.n_Entry_state, (of_decide_eq_true (by kernel_rfl)), ?_⟩
    have e1 := pt_Entry_state t { e with home := h, qty := q, ep := n } c .held
    have e2 : Stt.held.str = ("held" : Str) := rfl
    rw [e2] at e1
    rw [e1, upd_upd]
    exact k
def told (t : Str) (e : Ent) : List V := [.str t, optV e.home, .int e.qty, .int e.ep, .str e.st.str, optV e.rcv, .bl e.cb]
def spEntTold (K : PySem.W.Frag) : Sp := fun vs H Q _ => ∃ (p dx c : Addr) (t : Str) (e : Ent), vs = [.ref p] ∧ H p = some (.ins (cEntry K) dx (entF t e c)) ∧ ∀ r, H r = none → Q (.ref r) (upd H r (.tup (told t e)))
theorem sc_Entry_told : FnScope ["self"] ["self"] (defScope sEntry_told) := ⟨rfl, rfl, rfl, by decide +kernel, rfl, by decide +kernel, by decide +kernel⟩
abbrev Ok_Entry_told (P : Program) (w : World) (K : PySem.W.Frag) (mg : Str → Option Value) (base : Heap) : Prop := Has P w K mg base CX0 1 (fEntry_told K) ["self"] (spEntTold K)
theorem ok_Entry_told {P : Program} {w : World} {K : PySem.W.Frag} {mg : Str → Option Value} {base : Heap} (T : Txt K mg) : Ok_Entry_told P w K mg base := by
  obtain ⟨fd, F⟩ := T.dEntry_told
  refine ⟨fd, FunD.ok (CX := CX0) F sc_Entry_told (fun vs H Q E h => ?_) (fun cdv A outer s H vs Q E hr h => ?_), FunD.bindsN F fun _ _ _ _ _ _ us hl => match us, hl with | [_], _ => rfl⟩
  · obtain ⟨p, dx, c, t, e, rfl, _⟩ := h
    rfl
  · have hu := hu_of hr
    refine ⟨_, PSs.nox (pss_one (ps_ret (pe_tup (pa_cons (pe_fld (pv 0) rfl) (pa_cons (pe_fld (pv 0) rfl) (pa_cons (pe_fld (pv 0) rfl) (pa_cons (pe_fld (pv 0) rfl) (pa_cons (pe_fld (pv 0) rfl) (pa_cons (pe_fld (pv 0) rfl) (pa_cons (pe_fld (pv 0) rfl) pa_nil)))))))))), ?_⟩
    obtain ⟨p, dx, c, t, e, rfl, hp, k⟩ := h
    refine ⟨_, rfl, p, cEntry K, dx, _, _, rfl, hp, T.cl_Entry, T.n_Entry_thing, lk_Entry_thing _ _ _, ?_⟩
    refine ⟨_, rfl, p, cEntry K, dx, _, _, rfl, hp, T.cl_Entry, T.n_Entry_home, lk_Entry_home _ _ _, ?_⟩
    refine ⟨_, rfl, p, cEntry K, dx, _, _, rfl, hp, T.cl_Entry, T.n_Entry_quantity, lk_Entry_quantity _ _ _, ?_⟩
    refine ⟨_, rfl, p, cEntry K, dx, _, _, rfl, hp, T.cl_Entry, T.n_Entry_epoch, lk_Entry_epoch _ _ _, ?_⟩
    refine ⟨_, rfl, p, cEntry K, dx, _, _, rfl, hp, T.cl_Entry, T.n_Entry_state, lk_Entry_state _ _ _, ?_⟩
    refine ⟨_, rfl, p, cEntry K, dx, _, _, rfl, hp, T.cl_Entry, T.n_Entry_receiver, lk_Entry_receiver _ _ _, ?_⟩
    refine ⟨_, rfl, p, cEntry K, dx, _, _, rfl, hp, T.cl_Entry, T.n_Entry_is_recalled, lk_Entry_is_recalled _ _ _, ?_⟩
    exact ⟨line16 (by show 7 ≤ 16000000; decide), fun r hr => k r hr⟩
/-! ### books -/
def spBokInit (K : PySem.W.Frag) : Sp := fun vs H Q _ => ∃ (p dx : Addr) (o : Str), vs = [.ref p, .str o] ∧ H p = some (.ins (cBook K) dx []) ∧
  ∀ d1 d2 H', H d1 = none → H d2 = none → d1 ≠ d2 → d1 ≠ p → d2 ≠ p → H' p = some (.ins (cBook K) dx (bokF o d1 d2 0 1)) → H' d1 = some (.dK []) → H' d2 = some (.dK []) → (∀ b, b ≠ p → b ≠ d1 → b ≠ d2 → H' b = H b) → Q .non H'
theorem sc_Book_init : FnScope ["self", "office"] ["self", "office"] (defScope sBook_init) := ⟨rfl, rfl, rfl, by decide +kernel, rfl, by decide +kernel, by decide +kernel⟩
abbrev Ok_Book_init (P : Program) (w : World) (K : PySem.W.Frag) (mg : Str → Option Value) (base : Heap) : Prop := Has P w K mg base CX0 1 (fBook_init K) ["self", "office"] (spBokInit K)
theorem ok_Book_init {P : Program} {w : World} {K : PySem.W.Frag} {mg : Str → Option Value} {base : Heap} (T : Txt K mg) : Ok_Book_init P w K mg base := by
  obtain ⟨fd, F⟩ := T.dBook_init
  refine ⟨fd, FunD.ok (CX := CX0) F sc_Book_init (fun vs H Q E h => ?_) (fun cdv A outer s H vs Q E hr h => ?_), FunD.bindsN F fun _ _ _ _ _ _ us hl => match us, hl with | [_, _], _ => rfl⟩
  · obtain ⟨p, dx, o, rfl, _⟩ := h
    rfl
  · have hu := hu_of hr
    refine ⟨_, PSs.nox (pss_cons (ps_fld (pv 0) (pv 1) rfl)
      (pss_cons (ps_fld (pv 0) pe_dnewK rfl)
      (pss_cons (ps_fld (pv 0) pe_dnewK rfl)
      (pss_cons (ps_fld (pv 0) pe_int rfl)
      (pss_one (ps_fld (pv 0) pe_int rfl)))))), ?_⟩
    obtain ⟨p, dx, o, rfl, hp, k⟩ := h
    refine ⟨_, rfl, _, rfl, p, cBook K, dx, _, rfl, hp, T.cl_Book, T.n_Book_office, (of_decide_eq_true (by kernel_rfl)), fun a ha => ?_⟩
    have pa : p ≠ a := ne_of_none upd_same ha
    refine ⟨_, rfl, p, cBook K, dx, _, rfl, (upd_ne pa).trans upd_same, T.cl_Book, T.n_Book_entries, (of_decide_eq_true (by kernel_rfl)), fun c hc => ?_⟩
    have pc : p ≠ c := ne_of_none upd_same hc
    have ac : a ≠ c := ne_of_none ((upd_ne pa.symm).trans upd_same) hc
    refine ⟨_, rfl, p, cBook K, dx, _, rfl, (upd_ne pc).trans upd_same, T.cl_Book, T.n_Book_payments, (of_decide_eq_true (by kernel_rfl)), ?_⟩
    refine ⟨_, rfl, p, cBook K, dx, _, rfl, upd_same, T.cl_Book, T.n_Book_credit, (of_decide_eq_true (by kernel_rfl)), ?_⟩
    refine ⟨_, rfl, p, cBook K, dx, _, rfl, upd_same, T.cl_Book, T.n_Book_next_number, (of_decide_eq_true (by kernel_rfl)), ?_⟩
    rw [upd_ne pa.symm] at ha
    rw [upd_ne pc.symm, upd_ne ac.symm, upd_ne pc.symm] at hc
    refine k a c _ ha hc ac pa.symm pc.symm (upd_same.trans (congrArg (fun z => some (HO.ins (cBook K) dx z)) (mk_Book o a c))) ?_ ?_ fun b nb na nc => ?_
    · rw [upd_ne pa.symm, upd_ne pa.symm, upd_ne pa.symm, upd_ne ac, upd_ne pa.symm, upd_same]
    · rw [upd_ne pc.symm, upd_ne pc.symm, upd_ne pc.symm, upd_same]
    · rw [upd_ne nb, upd_ne nb, upd_ne nb, upd_ne nc, upd_ne nb, upd_ne na, upd_ne nb]
/-- what entries.get(t) is -/
def entV (L : Lay) (S : OSt) (t : Str) : V := match S.get t with
  | none => .non
  | some _ => .ref (L.ea t)
theorem entV_eq (L : Lay) (S : OSt) (t : Str) : (valV (entKV L S.es) (Sum.inr t : Key)).getD .non = entV L S t := by
  rw [valV_ent]
  unfold entV OSt.get
  cases gt S.es t with
  | none => rfl
  | some _ => rfl
def spBokEntry (K : PySem.W.Frag) : Sp := fun vs H Q _ => ∃ (L : Lay) (S : OSt) (t : Str), vs = [.ref L.bk, .str t] ∧ OffAt K H L S ∧ Q (entV L S t) H
theorem sc_Book_entry : FnScope ["self", "thing"] ["self", "thing"] (defScope sBook_entry) := ⟨rfl, rfl, rfl, by decide +kernel, rfl, by decide +kernel, by decide +kernel⟩
abbrev Ok_Book_entry (P : Program) (w : World) (K : PySem.W.Frag) (mg : Str → Option Value) (base : Heap) : Prop := Has P w K mg base CX0 1 (fBook_entry K) ["self", "thing"] (spBokEntry K)
theorem ok_Book_entry {P : Program} {w : World} {K : PySem.W.Frag} {mg : Str → Option Value} {base : Heap} (T : Txt K mg) : Ok_Book_entry P w K mg base := by
  obtain ⟨fd, F⟩ := T.dBook_entry
  refine ⟨fd, FunD.ok (CX := CX0) F sc_Book_entry (fun vs H Q E h => ?_) (fun cdv A outer s H vs Q E hr h => ?_), FunD.bindsN F fun _ _ _ _ _ _ us hl => match us, hl with | [_, _], _ => rfl⟩
  · obtain ⟨L, S, t, rfl, _⟩ := h
    rfl
  · have hu := hu_of hr
    refine ⟨_, PSs.nox (pss_one (ps_ret (pe_dget1 hu (pe_fld (pv 0) rfl) (pv 1) ⟨rfl, rfl, rfl, rfl⟩))), ?_⟩
    obtain ⟨L, S, t, rfl, O, k⟩ := h
    obtain ⟨dx, h1⟩ := O.bk
    refine ⟨_, rfl, L.bk, cBook K, dx, _, _, rfl, h1, T.cl_Book, T.n_Book_entries, lk_Book_entries _ _ _ _ _, L.en, rfl, .inl ⟨_, .of O.en⟩, _, rfl, _, DGet.k (k := Sum.inr t) O.en, ?_⟩
    rw [entV_eq]
    exact k
def idsV (o : Str) (nx : Int) (n : Nat) : List V := (List.range n).map fun (k : Nat) => V.str (idf o (nx + (k : Int)))
def spNewIds (K : PySem.W.Frag) : Sp := fun vs H Q _ => ∃ (L : Lay) (S : OSt) (n : Nat), vs = [.ref L.bk, .int n] ∧ OffAt K H L S ∧ S.name.length ≤ 100 ∧ 0 ≤ S.nx ∧ S.nx ≤ 1000000 ∧ n ≤ 1000 ∧
  ∀ r, H r = none → Q (.ref r) (upd H r (.lst (idsV S.name S.nx n)))
theorem log_small {i : Int} (h0 : 0 ≤ i) (h1 : i ≤ 1000000000000) : i.natAbs.log2 < 1920 := by
  by_cases z : i.natAbs = 0
  · rw [z]
    decide
  · refine (Nat.log2_lt z).mpr ?_
    refine Nat.lt_of_le_of_lt (show i.natAbs ≤ 1000000000000 by omega) ?_
    exact Nat.lt_of_lt_of_le (by decide : 1000000000000 < 2 ^ 64) (Nat.pow_le_pow_right (by decide) (by decide))
theorem sc_Book_new_ids : FnScope ["self", "count", "k"] ["self", "count"] (defScope sBook_new_ids) := ⟨rfl, rfl, rfl, by decide +kernel, rfl, by decide +kernel, by decide +kernel⟩
abbrev Ok_Book_new_ids (P : Program) (w : World) (K : PySem.W.Frag) (mg : Str → Option Value) (base : Heap) : Prop := Has P w K mg base CX0 2 (fBook_new_ids K) ["self", "count"] (spNewIds K)
theorem ok_Book_new_ids {P : Program} {w : World} {K : PySem.W.Frag} {mg : Str → Option Value} {base : Heap} (T : Txt K mg) (h_id_of : Ok_id_of P w K mg base) : Ok_Book_new_ids P w K mg base := by
  obtain ⟨fd, F⟩ := T.dBook_new_ids
  obtain ⟨fd_id_of, G_id_of, b_id_of⟩ := h_id_of
  have k_id_of : PySem.W.keepIn K (.ref (f_id_of K)) = true := by
    obtain ⟨_, q⟩ := T.d_id_of
    exact q.kp
  refine ⟨fd, FunD.ok (CX := CX0) F sc_Book_new_ids (fun vs H Q E h => ?_) (fun cdv A outer s H vs Q E hr h => ?_), FunD.bindsN F fun _ _ _ _ _ _ us hl => match us, hl with | [_, _], _ => rfl⟩
  · obtain ⟨L, S, n, rfl, _⟩ := h
    rfl
  · have hu := hu_of hr
    refine ⟨_, PSs.nox (pss_one (ps_ret (pe_lc (own := [("k", 2)]) (g := gName 2) (tt := tYes) (by rfl) sc_Book_new_ids.nd (pi_range1 rfl T.b_range (pa_cons (pv 1) pa_nil)) (blkOk_by (own := [("k", 2)]) (N := ["self", "count", "k"]) (sc := defScope sBook_new_ids) (by decide +kernel)) (fun _ _ _ _ _ => (pg_name (i := 2) sc_Book_new_ids.nd rfl (Or.inl rfl))) (fun _ _ _ _ _ => pts_nil) (fun _ _ _ _ _ => (by exact (pe_call G_id_of (hr.mono (by decide)) rfl T.g_id_of k_id_of b_id_of .nil pass0 (by exact (pa_cons (pe_fldB (K := K) rfl (pv 0) rfl) (pa_cons (pe_op op_add (pe_fldB (K := K) rfl (pv 0) rfl) (pv 2)) pa_nil))))))))), ?_⟩
    obtain ⟨L, S, n, rfl, O, hn, h0, h1, hc, k⟩ := h
    obtain ⟨dx, hb⟩ := O.bk
    refine ⟨_, rfl, (n : Int), rfl, by omega, by omega, fun D hD => lc_range (lo := 0) (n := ((n : Int)).toNat) (fun i H' => H' = upd H D (.lst (idsV S.name S.nx i))) rfl (fun i H' hi hh => ?_) (fun H' hh => ?_)⟩
    · subst hh
      have hbD : L.bk ≠ D := ne_of_none hb hD
      have hb' := (upd_ne (H := H) (o := .lst (idsV S.name S.nx i)) hbD).trans hb
      refine ⟨rfl, _, rfl, L.bk, cBook K, dx, _, _, rfl, hb', T.cl_Book, T.n_Book_office, lk_Book_office _ _ _ _ _, _, rfl, L.bk, cBook K, dx, _, _, rfl, hb', T.cl_Book, T.n_Book_next_number, lk_Book_next_number _ _ _ _ _, _, rfl, _, _, rfl, rfl, ?_⟩
      refine ⟨_, _, rfl, hn, log_small (by omega) (by omega), _, upd_same, ?_, ?_⟩
      · unfold idsV
        rw [List.length_map, List.length_range]
        exact small1000 (by omega)
      · rw [upd_upd]
        have e : idsV S.name S.nx (i + 1) = idsV S.name S.nx i ++ [V.str (idf S.name (S.nx + (0 + (i : Int))))] := by
          unfold idsV
          rw [List.range_succ, List.map_append]
          simp
        rw [e]
    · subst hh
      exact k D hD
end LH
namespace LH
open PySem PySem.Spec PyProof.Rows L2
section
variable {K : PySem.W.Frag} {mg : Str → Option Value} {H : Hp} {p dx : Addr} {Q : V → Prop}
theorem ixT (T : Txt K mg) {a : Addr} {xs : List V} (h : H a = some (.tup xs)) {i : Int} (v : V) (q : Q v) (hv : atI xs i = some v := by rfl) : ∃ (p : Addr) (xs : List V) (j : Int) (v : V), V.ref a = .ref p ∧ V.int i = .int j ∧ SqT K H p xs ∧ atI xs j = some v ∧ Q v := ⟨a, xs, i, v, rfl, rfl, SqT.of h, hv, q⟩
theorem ixL (T : Txt K mg) {a : Addr} {xs : List V} (h : H a = some (.lst xs)) {i : Int} (v : V) (q : Q v) (hv : atI xs i = some v := by rfl) : ∃ (p : Addr) (xs : List V) (j : Int) (v : V), V.ref a = .ref p ∧ V.int i = .int j ∧ SqL K H p xs ∧ atI xs j = some v ∧ Q v := ⟨a, xs, i, v, rfl, rfl, SqL.of h, hv, q⟩
theorem rd_Net_letters (T : Txt K mg) {l : Addr} (h : H p = some (.ins (cNet K) dx (netF l))) (q : Q (.ref l)) : ∃ (a C d : Addr) (fs : List (Str × V)) (v : V), V.ref p = .ref a ∧ H a = some (.ins C d fs) ∧ Cls K C ∧ NoAttr K C "_letters" ∧ fs.lookup ("_letters" : Str) = some v ∧ Q v := ⟨p, cNet K, dx, _, _, rfl, h, T.cl_Net, T.n_Net__letters, lk_Net_letters _, q⟩
theorem rd_Entry_thing (T : Txt K mg) {t : Str} {e : Ent} {c : Addr} (h : H p = some (.ins (cEntry K) dx (entF t e c))) (q : Q (.str t)) : ∃ (a C d : Addr) (fs : List (Str × V)) (v : V), V.ref p = .ref a ∧ H a = some (.ins C d fs) ∧ Cls K C ∧ NoAttr K C "thing" ∧ fs.lookup ("thing" : Str) = some v ∧ Q v := ⟨p, cEntry K, dx, _, _, rfl, h, T.cl_Entry, T.n_Entry_thing, lk_Entry_thing _ _ _, q⟩
theorem rd_Entry_home (T : Txt K mg) {t : Str} {e : Ent} {c : Addr} (h : H p = some (.ins (cEntry K) dx (entF t e c))) (q : Q (optV e.home)) : ∃ (a C d : Addr) (fs : List (Str × V)) (v : V), V.ref p = .ref a ∧ H a = some (.ins C d fs) ∧ Cls K C ∧ NoAttr K C "home" ∧ fs.lookup ("home" : Str) = some v ∧ Q v := ⟨p, cEntry K, dx, _, _, rfl, h, T.cl_Entry, T.n_Entry_home, lk_Entry_home _ _ _, q⟩
theorem rd_Entry_quantity (T : Txt K mg) {t : Str} {e : Ent} {c : Addr} (h : H p = some (.ins (cEntry K) dx (entF t e c))) (q : Q (.int e.qty)) : ∃ (a C d : Addr) (fs : List (Str × V)) (v : V), V.ref p = .ref a ∧ H a = some (.ins C d fs) ∧ Cls K C ∧ NoAttr K C "quantity" ∧ fs.lookup ("quantity" : Str) = some v ∧ Q v := ⟨p, cEntry K, dx, _, _, rfl, h, T.cl_Entry, T.n_Entry_quantity, lk_Entry_quantity _ _ _, q⟩
theorem rd_Entry_epoch (T : Txt K mg) {t : Str} {e : Ent} {c : Addr} (h : H p = some (.ins (cEntry K) dx (entF t e c))) (q : Q (.int e.ep)) : ∃ (a C d : Addr) (fs : List (Str × V)) (v : V), V.ref p = .ref a ∧ H a = some (.ins C d fs) ∧ Cls K C ∧ NoAttr K C "epoch" ∧ fs.lookup ("epoch" : Str) = some v ∧ Q v := ⟨p, cEntry K, dx, _, _, rfl, h, T.cl_Entry, T.n_Entry_epoch, lk_Entry_epoch _ _ _, q⟩
theorem rd_Entry_state (T : Txt K mg) {t : Str} {e : Ent} {c : Addr} (h : H p = some (.ins (cEntry K) dx (entF t e c))) (q : Q (.str e.st.str)) : ∃ (a C d : Addr) (fs : List (Str × V)) (v : V), V.ref p = .ref a ∧ H a = some (.ins C d fs) ∧ Cls K C ∧ NoAttr K C "state" ∧ fs.lookup ("state" : Str) = some v ∧ Q v := ⟨p, cEntry K, dx, _, _, rfl, h, T.cl_Entry, T.n_Entry_state, lk_Entry_state _ _ _, q⟩
theorem rd_Entry_receiver (T : Txt K mg) {t : Str} {e : Ent} {c : Addr} (h : H p = some (.ins (cEntry K) dx (entF t e c))) (q : Q (optV e.rcv)) : ∃ (a C d : Addr) (fs : List (Str × V)) (v : V), V.ref p = .ref a ∧ H a = some (.ins C d fs) ∧ Cls K C ∧ NoAttr K C "receiver" ∧ fs.lookup ("receiver" : Str) = some v ∧ Q v := ⟨p, cEntry K, dx, _, _, rfl, h, T.cl_Entry, T.n_Entry_receiver, lk_Entry_receiver _ _ _, q⟩
theorem rd_Entry_children (T : Txt K mg) {t : Str} {e : Ent} {c : Addr} (h : H p = some (.ins (cEntry K) dx (entF t e c))) (q : Q (.ref c)) : ∃ (a C d : Addr) (fs : List (Str × V)) (v : V), V.ref p = .ref a ∧ H a = some (.ins C d fs) ∧ Cls K C ∧ NoAttr K C "children" ∧ fs.lookup ("children" : Str) = some v ∧ Q v := ⟨p, cEntry K, dx, _, _, rfl, h, T.cl_Entry, T.n_Entry_children, lk_Entry_children _ _ _, q⟩
theorem rd_Entry_is_recalled (T : Txt K mg) {t : Str} {e : Ent} {c : Addr} (h : H p = some (.ins (cEntry K) dx (entF t e c))) (q : Q (.bl e.cb)) : ∃ (a C d : Addr) (fs : List (Str × V)) (v : V), V.ref p = .ref a ∧ H a = some (.ins C d fs) ∧ Cls K C ∧ NoAttr K C "is_recalled" ∧ fs.lookup ("is_recalled" : Str) = some v ∧ Q v := ⟨p, cEntry K, dx, _, _, rfl, h, T.cl_Entry, T.n_Entry_is_recalled, lk_Entry_is_recalled _ _ _, q⟩
theorem rd_Entry_is_received (T : Txt K mg) {t : Str} {e : Ent} {c : Addr} (h : H p = some (.ins (cEntry K) dx (entF t e c))) (q : Q (.bl e.rd)) : ∃ (a C d : Addr) (fs : List (Str × V)) (v : V), V.ref p = .ref a ∧ H a = some (.ins C d fs) ∧ Cls K C ∧ NoAttr K C "is_received" ∧ fs.lookup ("is_received" : Str) = some v ∧ Q v := ⟨p, cEntry K, dx, _, _, rfl, h, T.cl_Entry, T.n_Entry_is_received, lk_Entry_is_received _ _ _, q⟩
theorem rd_Entry_is_noted (T : Txt K mg) {t : Str} {e : Ent} {c : Addr} (h : H p = some (.ins (cEntry K) dx (entF t e c))) (q : Q (.bl e.nt)) : ∃ (a C d : Addr) (fs : List (Str × V)) (v : V), V.ref p = .ref a ∧ H a = some (.ins C d fs) ∧ Cls K C ∧ NoAttr K C "is_noted" ∧ fs.lookup ("is_noted" : Str) = some v ∧ Q v := ⟨p, cEntry K, dx, _, _, rfl, h, T.cl_Entry, T.n_Entry_is_noted, lk_Entry_is_noted _ _ _, q⟩
theorem rd_Entry_is_paid (T : Txt K mg) {t : Str} {e : Ent} {c : Addr} (h : H p = some (.ins (cEntry K) dx (entF t e c))) (q : Q (.bl e.pd)) : ∃ (a C d : Addr) (fs : List (Str × V)) (v : V), V.ref p = .ref a ∧ H a = some (.ins C d fs) ∧ Cls K C ∧ NoAttr K C "is_paid" ∧ fs.lookup ("is_paid" : Str) = some v ∧ Q v := ⟨p, cEntry K, dx, _, _, rfl, h, T.cl_Entry, T.n_Entry_is_paid, lk_Entry_is_paid _ _ _, q⟩
theorem rd_Book_office (T : Txt K mg) {o : Str} {en pa : Addr} {cr nx : Int} (h : H p = some (.ins (cBook K) dx (bokF o en pa cr nx))) (q : Q (.str o)) : ∃ (a C d : Addr) (fs : List (Str × V)) (v : V), V.ref p = .ref a ∧ H a = some (.ins C d fs) ∧ Cls K C ∧ NoAttr K C "office" ∧ fs.lookup ("office" : Str) = some v ∧ Q v := ⟨p, cBook K, dx, _, _, rfl, h, T.cl_Book, T.n_Book_office, lk_Book_office _ _ _ _ _, q⟩
theorem rd_Book_entries (T : Txt K mg) {o : Str} {en pa : Addr} {cr nx : Int} (h : H p = some (.ins (cBook K) dx (bokF o en pa cr nx))) (q : Q (.ref en)) : ∃ (a C d : Addr) (fs : List (Str × V)) (v : V), V.ref p = .ref a ∧ H a = some (.ins C d fs) ∧ Cls K C ∧ NoAttr K C "entries" ∧ fs.lookup ("entries" : Str) = some v ∧ Q v := ⟨p, cBook K, dx, _, _, rfl, h, T.cl_Book, T.n_Book_entries, lk_Book_entries _ _ _ _ _, q⟩
theorem rd_Book_payments (T : Txt K mg) {o : Str} {en pa : Addr} {cr nx : Int} (h : H p = some (.ins (cBook K) dx (bokF o en pa cr nx))) (q : Q (.ref pa)) : ∃ (a C d : Addr) (fs : List (Str × V)) (v : V), V.ref p = .ref a ∧ H a = some (.ins C d fs) ∧ Cls K C ∧ NoAttr K C "payments" ∧ fs.lookup ("payments" : Str) = some v ∧ Q v := ⟨p, cBook K, dx, _, _, rfl, h, T.cl_Book, T.n_Book_payments, lk_Book_payments _ _ _ _ _, q⟩
theorem rd_Book_credit (T : Txt K mg) {o : Str} {en pa : Addr} {cr nx : Int} (h : H p = some (.ins (cBook K) dx (bokF o en pa cr nx))) (q : Q (.int cr)) : ∃ (a C d : Addr) (fs : List (Str × V)) (v : V), V.ref p = .ref a ∧ H a = some (.ins C d fs) ∧ Cls K C ∧ NoAttr K C "credit" ∧ fs.lookup ("credit" : Str) = some v ∧ Q v := ⟨p, cBook K, dx, _, _, rfl, h, T.cl_Book, T.n_Book_credit, lk_Book_credit _ _ _ _ _, q⟩
theorem rd_Book_next_number (T : Txt K mg) {o : Str} {en pa : Addr} {cr nx : Int} (h : H p = some (.ins (cBook K) dx (bokF o en pa cr nx))) (q : Q (.int nx)) : ∃ (a C d : Addr) (fs : List (Str × V)) (v : V), V.ref p = .ref a ∧ H a = some (.ins C d fs) ∧ Cls K C ∧ NoAttr K C "next_number" ∧ fs.lookup ("next_number" : Str) = some v ∧ Q v := ⟨p, cBook K, dx, _, _, rfl, h, T.cl_Book, T.n_Book_next_number, lk_Book_next_number _ _ _ _ _, q⟩
theorem rd_Office_name (T : Txt K mg) {o : Str} {bk ln : Addr} (h : H p = some (.ins (cOffice K) dx (offF o bk ln))) (q : Q (.str o)) : ∃ (a C d : Addr) (fs : List (Str × V)) (v : V), V.ref p = .ref a ∧ H a = some (.ins C d fs) ∧ Cls K C ∧ NoAttr K C "name" ∧ fs.lookup ("name" : Str) = some v ∧ Q v := ⟨p, cOffice K, dx, _, _, rfl, h, T.cl_Office, T.n_Office_name, lk_Office_name _ _ _, q⟩
theorem rd_Office_book (T : Txt K mg) {o : Str} {bk ln : Addr} (h : H p = some (.ins (cOffice K) dx (offF o bk ln))) (q : Q (.ref bk)) : ∃ (a C d : Addr) (fs : List (Str × V)) (v : V), V.ref p = .ref a ∧ H a = some (.ins C d fs) ∧ Cls K C ∧ NoAttr K C "_book" ∧ fs.lookup ("_book" : Str) = some v ∧ Q v := ⟨p, cOffice K, dx, _, _, rfl, h, T.cl_Office, T.n_Office__book, lk_Office_book _ _ _, q⟩
theorem rd_Office_lines (T : Txt K mg) {o : Str} {bk ln : Addr} (h : H p = some (.ins (cOffice K) dx (offF o bk ln))) (q : Q (.ref ln)) : ∃ (a C d : Addr) (fs : List (Str × V)) (v : V), V.ref p = .ref a ∧ H a = some (.ins C d fs) ∧ Cls K C ∧ NoAttr K C "_lines" ∧ fs.lookup ("_lines" : Str) = some v ∧ Q v := ⟨p, cOffice K, dx, _, _, rfl, h, T.cl_Office, T.n_Office__lines, lk_Office_lines _ _ _, q⟩
theorem rd_World_net (T : Txt K mg) {n o : Addr} (h : H p = some (.ins (cWorld K) dx (wldF n o))) (q : Q (.ref n)) : ∃ (a C d : Addr) (fs : List (Str × V)) (v : V), V.ref p = .ref a ∧ H a = some (.ins C d fs) ∧ Cls K C ∧ NoAttr K C "net" ∧ fs.lookup ("net" : Str) = some v ∧ Q v := ⟨p, cWorld K, dx, _, _, rfl, h, T.cl_World, T.n_World_net, lk_World_net _ _, q⟩
theorem rd_World_offices (T : Txt K mg) {n o : Addr} (h : H p = some (.ins (cWorld K) dx (wldF n o))) (q : Q (.ref o)) : ∃ (a C d : Addr) (fs : List (Str × V)) (v : V), V.ref p = .ref a ∧ H a = some (.ins C d fs) ∧ Cls K C ∧ NoAttr K C "_offices" ∧ fs.lookup ("_offices" : Str) = some v ∧ Q v := ⟨p, cWorld K, dx, _, _, rfl, h, T.cl_World, T.n_World__offices, lk_World_offices _ _, q⟩
end
end LH
namespace LH
open PySem PySem.Spec PyProof.Rows L2
/-! ### the lines of a journal -/
inductive Line where
  | reg (t : Str) (q : Int)
  | give (t : Str) (n : Int) (r : Str)
  | got (t h : Str) (q n : Int) (s : Str)
  | spl (t : Str) (ps : List (Str × Int))
  | joi (n : Str) (ts : List Str)
  | use (t : Str)
  | rcl (t : Str)
  | ntc (t o : Str)
  | rcp (t : Str) (n : Int)
  | ntd (t o : Str)
  | pay (t o : Str) (q : Int)
  | pad (t : Str) (q : Int)
def Line.enc : Line → List V
  | .reg t q => [.str "register", .str t, .int q]
  | .give t n r => [.str "give", .str t, .int n, .str r]
  | .got t h q n s => [.str "got", .str t, .str h, .int q, .int n, .str s]
  | .spl t ps => .str "split" :: .str t :: ps.flatMap fun p => [V.str p.1, V.int p.2]
  | .joi n ts => .str "join" :: .str n :: ts.map V.str
  | .use t => [.str "use", .str t]
  | .rcl t => [.str "recall", .str t]
  | .ntc t o => [.str "notice", .str t, .str o]
  | .rcp t n => [.str "receipt", .str t, .int n]
  | .ntd t o => [.str "noted", .str t, .str o]
  | .pay t o q => [.str "pay", .str t, .str o, .int q]
  | .pad t q => [.str "paid", .str t, .int q]
/-- does the id begin with the office's name and a dash -/
def own (o t : Str) : Bool := Txt.startswith t (o ++ ("-" : Str))
def gotB (S : OSt) (t h : Str) (q n : Int) (s : Str) : Bool :=
  if s = S.name ∨ ¬ (1 ≤ q ∧ q ≤ 1000000000) ∨ n < 2 then false else
  match S.get t with
  | none => !own S.name t
  | some e => if e.st = .unk then !own S.name t else if e.st ≠ .given ∨ n ≤ e.ep then false else decide (some h = e.home) && decide (q = e.qty)
/-- does a line that answers a letter fit -/
def fitB (S : OSt) : Line → Bool
  | .got t h q n s => gotB S t h q n s
  | .pay t _ q => (gt S.ps t).isNone && decide (1 ≤ q ∧ q ≤ 1000000000)
  | .ntc t o => (match S.get t with
    | none => true
    | some e => !e.cb) && decide (o ≠ S.name)
  | .rcp t n => (match S.get t with
    | none => false
    | some e => decide (e.st = .given ∧ n = e.ep) && !e.rd)
  | .ntd t o => (match S.get t with
    | none => false
    | some e => decide (e.cb = true ∧ e.st = .given) && decide (some o = e.rcv) && !e.nt)
  | .pad t q => (match S.get t with
    | none => false
    | some e => decide (e.st = .used) && !e.pd && decide (q = e.qty))
  | _ => false
def Line.note : Line → Prop
  | .got .. | .pay .. | .ntc .. | .rcp .. | .ntd .. | .pad .. => True
  | _ => False
theorem stq (s t : Stt) : decide (V.str s.str = V.str t.str) = decide (s = t) := by cases s <;> cases t <;> decide +kernel
theorem stq_unk (s : Stt) : decide (V.str s.str = V.str ("unknown" : Str)) = decide (s = .unk) := stq s .unk
theorem stq_given (s : Stt) : decide (V.str s.str = V.str ("given" : Str)) = decide (s = .given) := stq s .given
theorem stq_used (s : Stt) : decide (V.str s.str = V.str ("used" : Str)) = decide (s = .used) := stq s .used
theorem stq_held (s : Stt) : decide (V.str s.str = V.str ("held" : Str)) = decide (s = .held) := stq s .held
theorem dstr (x y : Str) : decide (V.str x = V.str y) = decide (x = y) := by
  by_cases e : x = y
  · rw [e, decide_eq_true rfl, decide_eq_true rfl]
  · rw [decide_eq_false e, decide_eq_false fun z => e (by injection z)]
theorem dint (x y : Int) : decide (V.int x = V.int y) = decide (x = y) := by
  by_cases e : x = y
  · rw [e, decide_eq_true rfl, decide_eq_true rfl]
  · rw [decide_eq_false e, decide_eq_false fun z => e (by injection z)]
theorem dopt (x : Str) (y : Option Str) : decide (V.str x = optV y) = decide (some x = y) := by
  cases y with
  | none => exact (decide_eq_false (by intro z; cases z)).trans (decide_eq_false (by intro z; cases z)).symm
  | some y =>
    show decide (V.str x = V.str y) = _
    rw [dstr]
    by_cases e : x = y
    · rw [e, decide_eq_true rfl, decide_eq_true rfl]
    · rw [decide_eq_false e, decide_eq_false fun z => e (by injection z)]
theorem entV_none {L : Lay} {S : OSt} {t : Str} (h : S.get t = none) : entV L S t = .non := by
  unfold entV
  rw [h]
theorem entV_some {L : Lay} {S : OSt} {t : Str} {e : Ent} (h : S.get t = some e) : entV L S t = .ref (L.ea t) := by
  unfold entV
  rw [h]
def spFits (K : PySem.W.Frag) : Sp := fun vs H Q _ => ∃ (L : Lay) (S : OSt) (a : Addr) (ln : Line), vs = [.ref L.bk, .ref a] ∧ OffAt K H L S ∧ H a = some (.tup ln.enc) ∧ ln.note ∧ S.name.length ≤ 100 ∧ Q (.bl (fitB S ln)) H
def spFitsGot (K : PySem.W.Frag) : Sp := fun vs H Q _ => ∃ (L : Lay) (S : OSt) (a : Addr) (t h : Str) (q n : Int) (s : Str), vs = [.ref L.bk, .ref a] ∧ OffAt K H L S ∧ H a = some (.tup (Line.got t h q n s).enc) ∧ S.name.length ≤ 100 ∧ Q (.bl (gotB S t h q n s)) H
theorem sc_Book_fits_got : FnScope ["self", "line", "found"] ["self", "line"] (defScope sBook_fits_got) := ⟨rfl, rfl, rfl, by decide +kernel, rfl, by decide +kernel, by decide +kernel⟩
abbrev Ok_Book_fits_got (P : Program) (w : World) (K : PySem.W.Frag) (mg : Str → Option Value) (base : Heap) : Prop := Has P w K mg base CX0 2 (fBook_fits_got K) ["self", "line"] (spFitsGot K)
theorem ok_Book_fits_got {P : Program} {w : World} {K : PySem.W.Frag} {mg : Str → Option Value} {base : Heap} (T : Txt K mg) (h_Book_entry : Ok_Book_entry P w K mg base) : Ok_Book_fits_got P w K mg base := by
  obtain ⟨fd, F⟩ := T.dBook_fits_got
  obtain ⟨fd_Book_entry, G_Book_entry, b_Book_entry⟩ := h_Book_entry
  obtain ⟨tMOST, hMOST⟩ := T.i_MOST
  refine ⟨fd, FunD.ok (CX := CX0) F sc_Book_fits_got (fun vs H Q E h => ?_) (fun cdv A outer s H vs Q E hr h => ?_), FunD.bindsN F fun _ _ _ _ _ _ us hl => match us, hl with | [_, _], _ => rfl⟩
  · obtain ⟨L, S, a, t, h, q, n, s, rfl, _⟩ := h
    rfl
  · have hu := hu_of hr
    refine ⟨_, PSs.nox (pss_cons (ps_if (PW.pt (pw_or (pt_cmpR op_eq (pe_ix ix_tup (pv 1) pe_int (fun _ _ => rfl)) (pe_fld (pv 0) rfl) (nomark _)) (pw_or (pt_not (pt_chain op_le op_le pe_int (pe_ix ix_tup (pv 1) pe_int (fun _ _ => rfl)) (pe_glob (v := .int 1000000000) rfl hMOST ⟨_, rfl⟩))) (pw_or1 (pt_cmpR op_lt (pe_ix ix_tup (pv 1) pe_int (fun _ _ => rfl)) pe_int (nomark _)))))) (pss_one (ps_ret pe_bl)) pss_nil)
      (pss_cons (ps_set (i := 2) sc_Book_fits_got.nd rfl (Or.inl rfl) (pe_meth (pv 0) T.cl_Book T.m_Book_entry G_Book_entry (hr.mono (by decide)) b_Book_entry .nil pass0 (pa_cons (pe_ix ix_tup (pv 1) pe_int (fun _ _ => rfl)) pa_nil)))
      (pss_cons (ps_if (PW.pt (pw_or (pt_cmpR op_isN (pv 2) pe_non (nomark _)) (pw_or1 (pt_cmpR op_eq (pe_fld (pv 2) rfl) pe_str (nomark _))))) (pss_one (ps_ret (pe_not (pe_m1 PySem.F.slot_str_startswith PySem.F.type_str_startswith mt_startswith (pe_ix ix_tup (pv 1) pe_int (fun _ _ => rfl)) (pe_op op_add_str (pe_fld (pv 0) rfl) pe_str))))) pss_nil)
      (pss_cons (ps_if (PW.pt (pw_or (pt_cmpR op_ne (pe_fld (pv 2) rfl) pe_str (nomark _)) (pw_or1 (pt_cmpR op_le (pe_ix ix_tup (pv 1) pe_int (fun _ _ => rfl)) (pe_fld (pv 2) rfl) (nomark _))))) (pss_one (ps_ret pe_bl)) pss_nil)
      (pss_one (ps_ret (pe_and (pe_cmpR op_eq (pe_ix ix_tup (pv 1) pe_int (fun _ _ => rfl)) (pe_fld (pv 2) rfl) (nomark _)) (pe_one (pe_cmpR op_eq (pe_ix ix_tup (pv 1) pe_int (fun _ _ => rfl)) (pe_fld (pv 2) rfl) (nomark _)))))))))), ?_⟩
    obtain ⟨L, S, a, t, h, q, n, s0, rfl, O, ha, hn, k⟩ := h
    obtain ⟨dx, hb⟩ := O.bk
    have nm : (bokF S.name L.en L.pa S.cr S.nx).lookup ("entry" : Str) = none := ln_Book_entry _ _ _ _ _
    have bad : (s0 = S.name ∨ ¬ (1 ≤ q ∧ q ≤ 1000000000) ∨ n < 2) → Q (.bl false) H := fun z => by
      have e : gotB S t h q n s0 = false := if_pos z
      rw [e] at k
      exact k
    refine ⟨_, rfl, ixT T ha (.str s0) ⟨_, rfl, rd_Book_office T hb ⟨rfl, _, rfl, ?_⟩⟩⟩
    by_cases c1 : s0 = S.name
    · exact ifT (by rw [dstr]; exact decide_eq_true c1) (iteT (bad (.inl c1)))
    refine ifF (by rw [dstr]; exact decide_eq_false c1) ?_
    refine ⟨_, rfl, ixT T ha (.int q) ⟨_, _, rfl, rfl, _, rfl, ?_⟩⟩
    by_cases c2 : 1 ≤ q
    rotate_left
    · exact ifF (decide_eq_false c2) ⟨_, rfl, iteT (iteT (bad (.inr (.inl fun z => c2 z.1))))⟩
    refine ifT (decide_eq_true c2) ⟨_, _, rfl, rfl, _, rfl, ?_⟩
    by_cases c3 : q ≤ 1000000000
    rotate_left
    · rw [decide_eq_false c3]
      exact iteT (iteT (bad (.inr (.inl fun z => c3 z.2))))
    rw [decide_eq_true c3]
    refine iteF ?_
    refine ⟨_, rfl, ixT T ha (.int n) ⟨_, _, rfl, rfl, _, rfl, ?_⟩⟩
    by_cases c4 : n < 2
    · exact ifT (decide_eq_true c4) (bad (.inr (.inr c4)))
    refine ifF (decide_eq_false c4) ?_
    have good : ¬ (s0 = S.name ∨ ¬ (1 ≤ q ∧ q ≤ 1000000000) ∨ n < 2) := fun z => by
      rcases z with z | z | z
      · exact c1 z
      · exact z ⟨c2, c3⟩
      · exact c4 z
    have eg : gotB S t h q n s0 = _ := if_neg good
    rw [eg] at k
    clear bad eg
    -- found = self.entry(line[1])
    refine ⟨_, rfl, L.bk, dx, _, rfl, hb, nm, _, rfl, ixT T ha (.str t) ⟨L, S, t, rfl, O, ?_⟩⟩
    have asks : ∀ b, Q (.bl (!own S.name t)) H → b = !own S.name t → Q (.bl b) H := fun b z e => by
      rw [e]
      exact z
    cases ht : S.get t with
    | none =>
      rw [ht] at k
      rw [entV_none ht]
      refine ⟨_, rfl, rfl, _, rfl, iteT (iteT ?_)⟩
      refine ⟨_, rfl, ixT T ha (.str t) ⟨⟨_, rfl⟩, _, rfl, rd_Book_office T hb ⟨_, _, rfl, rfl, line16 (by rw [dash_len]; omega), _, _, rfl, rfl, _, rfl, k⟩⟩⟩
    | some e =>
      rw [ht] at k
      rw [entV_some ht]
      obtain ⟨de, he⟩ := O.ent t e (gt_mem ht)
      refine ⟨_, rfl, rfl, _, rfl, ifF (decide_eq_false (by intro z; cases z)) ?_⟩
      refine ⟨_, rfl, rd_Entry_state T he ⟨rfl, _, rfl, ?_⟩⟩
      rw [stq_unk]
      by_cases c5 : e.st = .unk
      · have e1 : (if e.st = .unk then !own S.name t else if e.st ≠ .given ∨ n ≤ e.ep then false else decide (some h = e.home) && decide (q = e.qty)) = !own S.name t := if_pos c5
        simp only [e1] at k
        refine ifT (decide_eq_true c5) ?_
        exact ⟨_, rfl, ixT T ha (.str t) ⟨⟨_, rfl⟩, _, rfl, rd_Book_office T hb ⟨_, _, rfl, rfl, line16 (by rw [dash_len]; omega), _, _, rfl, rfl, _, rfl, k⟩⟩⟩
      · have e1 : (if e.st = .unk then !own S.name t else if e.st ≠ .given ∨ n ≤ e.ep then false else decide (some h = e.home) && decide (q = e.qty)) = if e.st ≠ .given ∨ n ≤ e.ep then false else decide (some h = e.home) && decide (q = e.qty) := if_neg c5
        simp only [e1] at k
        refine ifF (decide_eq_false c5) ?_
        refine ⟨_, rfl, rd_Entry_state T he ⟨rfl, _, rfl, ?_⟩⟩
        rw [stq_given]
        by_cases c6 : e.st = .given
        rotate_left
        · have e2 : (if e.st ≠ .given ∨ n ≤ e.ep then false else decide (some h = e.home) && decide (q = e.qty)) = false := if_pos (.inl c6)
          rw [e2] at k
          exact ifT (by rw [decide_eq_false c6]; rfl) k
        refine ifF (by rw [decide_eq_true c6]; rfl) ?_
        refine ⟨_, rfl, ixT T ha (.int n) ⟨_, rfl, rd_Entry_epoch T he ⟨_, _, rfl, rfl, _, rfl, ?_⟩⟩⟩
        by_cases c7 : n ≤ e.ep
        · have e2 : (if e.st ≠ .given ∨ n ≤ e.ep then false else decide (some h = e.home) && decide (q = e.qty)) = false := if_pos (.inr c7)
          rw [e2] at k
          exact ifT (decide_eq_true c7) k
        refine ifF (decide_eq_false c7) ?_
        have e2 : (if e.st ≠ .given ∨ n ≤ e.ep then false else decide (some h = e.home) && decide (q = e.qty)) = (decide (some h = e.home) && decide (q = e.qty)) := if_neg fun z => z.elim (fun z => z c6) c7
        rw [e2] at k
        refine ⟨_, rfl, ixT T ha (.str h) ⟨_, rfl, rd_Entry_home T he ⟨?_, _, rfl, ?_⟩⟩⟩
        · cases e.home <;> rfl
        · rw [dopt]
          by_cases c8 : some h = e.home
          · rw [decide_eq_true c8] at k ⊢
            refine iteT ⟨_, rfl, ixT T ha (.int q) ⟨_, rfl, rd_Entry_quantity T he ⟨rfl, ?_⟩⟩⟩
            rw [dint]
            rw [Bool.true_and] at k
            exact k
          · rw [decide_eq_false c8] at k ⊢
            exact iteF k
def Line.ans : Line → Prop
  | .pay .. | .ntc .. | .rcp .. | .ntd .. | .pad .. => True
  | _ => False
def spFitsAns (K : PySem.W.Frag) : Sp := fun vs H Q _ => ∃ (L : Lay) (S : OSt) (a : Addr) (ln : Line), vs = [.ref L.bk, .ref a] ∧ OffAt K H L S ∧ H a = some (.tup ln.enc) ∧ ln.ans ∧ Q (.bl (fitB S ln)) H
theorem dnon_ref {p : Addr} : decide (V.ref p = V.non) = false := decide_eq_false (by intro z; cases z)
theorem not_some {α : Type} (o : Option α) : (!o.isSome) = o.isNone := by cases o <;> rfl
theorem sc_Book_fits_answer : FnScope ["self", "line", "word", "found", "is_told"] ["self", "line"] (defScope sBook_fits_answer) := ⟨rfl, rfl, rfl, by decide +kernel, rfl, by decide +kernel, by decide +kernel⟩
abbrev Ok_Book_fits_answer (P : Program) (w : World) (K : PySem.W.Frag) (mg : Str → Option Value) (base : Heap) : Prop := Has P w K mg base CX0 2 (fBook_fits_answer K) ["self", "line"] (spFitsAns K)
theorem ok_Book_fits_answer {P : Program} {w : World} {K : PySem.W.Frag} {mg : Str → Option Value} {base : Heap} (T : Txt K mg) (h_Book_entry : Ok_Book_entry P w K mg base) : Ok_Book_fits_answer P w K mg base := by
  obtain ⟨fd, F⟩ := T.dBook_fits_answer
  obtain ⟨fd_Book_entry, G_Book_entry, b_Book_entry⟩ := h_Book_entry
  obtain ⟨tMOST, hMOST⟩ := T.i_MOST
  refine ⟨fd, FunD.ok (CX := CX0) F sc_Book_fits_answer (fun vs H Q E h => ?_) (fun cdv A outer s H vs Q E hr h => ?_), FunD.bindsN F fun _ _ _ _ _ _ us hl => match us, hl with | [_, _], _ => rfl⟩
  · obtain ⟨L, S, a, ln, rfl, _⟩ := h
    rfl
  · have hu := hu_of hr
    refine ⟨_, PSs.nox (pss_cons (ps_set (i := 2) sc_Book_fits_answer.nd rfl (Or.inl rfl) (pe_ix ix_tup (pv 1) pe_int (fun _ _ => rfl)))
      (pss_cons (ps_set (i := 3) sc_Book_fits_answer.nd rfl (Or.inl rfl) (pe_meth (pv 0) T.cl_Book T.m_Book_entry G_Book_entry (hr.mono (by decide)) b_Book_entry .nil pass0 (pa_cons (pe_ix ix_tup (pv 1) pe_int (fun _ _ => rfl)) pa_nil)))
      (pss_cons (ps_if (pt_cmpR op_eq (pv 2) pe_str (nomark _)) (pss_one (ps_ret (pe_and (pe_cmp (pc_dnotin hu (pe_ix ix_tup (pv 1) pe_int (fun _ _ => rfl)) (pe_fld (pv 0) rfl)) rfl) (pe_one (pe_chain op_le op_le pe_int (pe_ix ix_tup (pv 1) pe_int (fun _ _ => rfl)) (pe_glob (v := .int 1000000000) rfl hMOST ⟨_, rfl⟩)))))) pss_nil)
      (pss_cons (ps_if (pt_cmpR op_eq (pv 2) pe_str (nomark _)) (pss_one (ps_ret (pe_and (pe_or (pe_cmpR op_isN (pv 3) pe_non (nomark _)) (pe_one (pe_not (pe_fld (pv 3) rfl)))) (pe_one (pe_cmpR op_ne (pe_ix ix_tup (pv 1) pe_int (fun _ _ => rfl)) (pe_fld (pv 0) rfl) (nomark _)))))) pss_nil)
      (pss_cons (ps_if (PW.pt (pw_or (pt_cmpR op_isN (pv 3) pe_non (nomark _)) (pw_or1 (pt_cmpR op_eq (pe_fld (pv 3) rfl) pe_str (nomark _))))) (pss_one (ps_ret pe_bl)) pss_nil)
      (pss_cons (ps_if (pt_cmpR op_eq (pv 2) pe_str (nomark _)) (pss_one (ps_ret (pe_not (pe_fld (pv 3) rfl)))) pss_nil)
      (pss_cons (ps_if (pt_cmpR op_eq (pv 2) pe_str (nomark _)) (pss_one (ps_ret (pe_and (pe_cmpR op_eq (pe_fld (pv 3) rfl) pe_str (nomark _)) (pe_and (pe_cmpR op_eq (pe_ix ix_tup (pv 1) pe_int (fun _ _ => rfl)) (pe_fld (pv 3) rfl) (nomark _)) (pe_one (pe_not (pe_fld (pv 3) rfl))))))) pss_nil)
      (pss_cons (ps_if (pt_cmpR op_eq (pv 2) pe_str (nomark _)) (pss_cons (ps_set (i := 4) sc_Book_fits_answer.nd rfl (Or.inl rfl) (pe_and (pe_fld (pv 3) rfl) (pe_one (pe_cmpR op_eq (pe_fld (pv 3) rfl) pe_str (nomark _)))))
      (pss_one (ps_ret (pe_and (pv 4) (pe_and (pe_cmpR op_eq (pe_ix ix_tup (pv 1) pe_int (fun _ _ => rfl)) (pe_fld (pv 3) rfl) (nomark _)) (pe_one (pe_not (pe_fld (pv 3) rfl)))))))) pss_nil)
      (pss_one (ps_ret (pe_and (pe_cmpR op_eq (pe_fld (pv 3) rfl) pe_str (nomark _)) (pe_and (pe_not (pe_fld (pv 3) rfl)) (pe_one (pe_cmpR op_eq (pe_ix ix_tup (pv 1) pe_int (fun _ _ => rfl)) (pe_fld (pv 3) rfl) (nomark _))))))))))))))), ?_⟩
    obtain ⟨L, S, a, ln, rfl, O, ha, hk, k⟩ := h
    obtain ⟨dx, hb⟩ := O.bk
    obtain ⟨pt, hp, hpt⟩ := O.pa
    have nm : (bokF S.name L.en L.pa S.cr S.nx).lookup ("entry" : Str) = none := ln_Book_entry _ _ _ _ _
    cases ln with
    | pay t o q =>
      refine ⟨_, rfl, ixT T ha (.str "pay") ?_⟩
      refine ⟨_, rfl, L.bk, dx, _, rfl, hb, nm, _, rfl, ixT T ha (.str t) ⟨L, S, t, rfl, O, ?_⟩⟩
      refine ⟨_, rfl, rfl, _, rfl, ifT (by decide +kernel) ?_⟩
      refine ⟨_, rfl, ixT T ha (.str t) ⟨_, rfl, rd_Book_payments T hb ⟨L.pa, _, rfl, DGet.k (k := Sum.inr t) hp, _, rfl, ?_⟩⟩⟩
      have e1 : (!(valV (payKV pt S.ps) (Sum.inr t : Key)).isSome) = (gt S.ps t).isNone := by
        rw [valV_pay, not_some]
        cases gt S.ps t <;> rfl
      rw [e1]
      have k : Q (.bl ((gt S.ps t).isNone && decide (1 ≤ q ∧ q ≤ 1000000000))) H := k
      cases e2 : (gt S.ps t).isNone with
      | false =>
        rw [e2] at k
        exact iteF k
      | true =>
        rw [e2, Bool.true_and] at k
        refine iteT ⟨_, rfl, ixT T ha (.int q) ⟨_, _, rfl, rfl, _, rfl, ?_⟩⟩
        by_cases c2 : 1 ≤ q
        · refine ifT (decide_eq_true c2) ⟨_, _, rfl, rfl, ?_⟩
          exact Qb (decide_eq_decide.mpr ⟨fun z => ⟨c2, z⟩, fun z => z.2⟩) k
        · rw [decide_eq_false fun z => c2 z.1] at k
          exact ifF (decide_eq_false c2) k
    | ntc t o =>
      refine ⟨_, rfl, ixT T ha (.str "notice") ?_⟩
      refine ⟨_, rfl, L.bk, dx, _, rfl, hb, nm, _, rfl, ixT T ha (.str t) ⟨L, S, t, rfl, O, ?_⟩⟩
      refine ⟨_, rfl, rfl, _, rfl, ifF (by decide +kernel) ?_⟩
      refine ⟨_, rfl, rfl, _, rfl, ifT (by decide +kernel) ?_⟩
      have k : Q (.bl ((match S.get t with | none => true | some e => !e.cb) && decide (o ≠ S.name))) H := k
      have last : ∀ {b : Bool}, b = (match S.get t with | none => true | some e => !e.cb) → b = true → scal (V.str o) (V.str S.name) = true ∧ Q (.bl (!decide (V.str o = V.str S.name))) H := fun {b} e e2 => by
        refine ⟨rfl, ?_⟩
        rw [← e, e2, Bool.true_and] at k
        refine Qb ?_ k
        rw [dstr]
        by_cases c : o = S.name
        · rw [decide_eq_true c, decide_eq_false fun z => z c]
          rfl
        · rw [decide_eq_false c, decide_eq_true c]
          rfl
      cases ht : S.get t with
      | none =>
        rw [entV_none ht]
        refine ⟨_, rfl, rfl, true, rfl, iteT ⟨true, rfl, iteT ⟨_, rfl, ixT T ha (.str o) ⟨_, rfl, rd_Book_office T hb (last (by rw [ht]) rfl)⟩⟩⟩⟩
      | some e =>
        rw [entV_some ht]
        obtain ⟨de, he⟩ := O.ent t e (gt_mem ht)
        refine ⟨_, rfl, rfl, false, congrArg V.bl dnon_ref, iteF ⟨_, rfl, rd_Entry_is_recalled T he ⟨_, rfl, ⟨_, rfl, ?_⟩⟩⟩⟩
        cases hc : e.cb with
        | true =>
          rw [ht] at k
          simp only [hc] at k
          exact iteF k
        | false => exact iteT ⟨_, rfl, ixT T ha (.str o) ⟨_, rfl, rd_Book_office T hb (last (by rw [ht]; simp only [hc]; rfl) rfl)⟩⟩
    | rcp t n =>
      refine ⟨_, rfl, ixT T ha (.str "receipt") ?_⟩
      refine ⟨_, rfl, L.bk, dx, _, rfl, hb, nm, _, rfl, ixT T ha (.str t) ⟨L, S, t, rfl, O, ?_⟩⟩
      refine ⟨_, rfl, rfl, _, rfl, ifF (by decide +kernel) ?_⟩
      refine ⟨_, rfl, rfl, _, rfl, ifF (by decide +kernel) ?_⟩
      have k : Q (.bl (match S.get t with | none => false | some e => decide (e.st = .given ∧ n = e.ep) && !e.rd)) H := k
      cases ht : S.get t with
      | none =>
        rw [ht] at k
        rw [entV_none ht]
        exact ⟨_, rfl, rfl, true, rfl, iteT (iteT k)⟩
      | some e =>
        rw [ht] at k
        rw [entV_some ht]
        obtain ⟨de, he⟩ := O.ent t e (gt_mem ht)
        refine ⟨_, rfl, rfl, false, congrArg V.bl dnon_ref, iteF ⟨_, rfl, rd_Entry_state T he ⟨rfl, _, rfl, ?_⟩⟩⟩
        rw [stq_unk]
        by_cases c5 : e.st = .unk
        · refine ifT (decide_eq_true c5) (Qb ?_ k)
          simp [c5]
        refine ifF (decide_eq_false c5) ?_
        refine ⟨_, rfl, rfl, _, rfl, ifF (by decide +kernel) ?_⟩
        refine ⟨_, rfl, rfl, _, rfl, ifT (by decide +kernel) ?_⟩
        refine ⟨_, rfl, rd_Entry_state T he ⟨rfl, _, rfl, ?_⟩⟩
        rw [stq_given]
        by_cases c6 : e.st = .given
        rotate_left
        · exact ifF (decide_eq_false c6) (Qb (by simp [c6]) k)
        refine ifT (decide_eq_true c6) ⟨_, rfl, ixT T ha (.int n) ⟨_, rfl, rd_Entry_epoch T he ⟨rfl, _, rfl, ?_⟩⟩⟩
        rw [dint]
        by_cases c7 : n = e.ep
        rotate_left
        · exact ifF (decide_eq_false c7) (Qb (by simp [c7]) k)
        refine ifT (decide_eq_true c7) ⟨_, rfl, rd_Entry_is_received T he ⟨_, rfl, Qb ?_ k⟩⟩
        simp [c6, c7]
    | ntd t o =>
      refine ⟨_, rfl, ixT T ha (.str "noted") ?_⟩
      refine ⟨_, rfl, L.bk, dx, _, rfl, hb, nm, _, rfl, ixT T ha (.str t) ⟨L, S, t, rfl, O, ?_⟩⟩
      refine ⟨_, rfl, rfl, _, rfl, ifF (by decide +kernel) ?_⟩
      refine ⟨_, rfl, rfl, _, rfl, ifF (by decide +kernel) ?_⟩
      have k : Q (.bl (match S.get t with | none => false | some e => decide (e.cb = true ∧ e.st = .given) && decide (some o = e.rcv) && !e.nt)) H := k
      cases ht : S.get t with
      | none =>
        rw [ht] at k
        rw [entV_none ht]
        exact ⟨_, rfl, rfl, true, rfl, iteT (iteT k)⟩
      | some e =>
        rw [ht] at k
        rw [entV_some ht]
        obtain ⟨de, he⟩ := O.ent t e (gt_mem ht)
        refine ⟨_, rfl, rfl, false, congrArg V.bl dnon_ref, iteF ⟨_, rfl, rd_Entry_state T he ⟨rfl, _, rfl, ?_⟩⟩⟩
        rw [stq_unk]
        by_cases c5 : e.st = .unk
        · refine ifT (decide_eq_true c5) (Qb ?_ k)
          simp [c5]
        refine ifF (decide_eq_false c5) ?_
        refine ⟨_, rfl, rfl, _, rfl, ifF (by decide +kernel) ?_⟩
        refine ⟨_, rfl, rfl, _, rfl, ifF (by decide +kernel) ?_⟩
        refine ⟨_, rfl, rfl, _, rfl, ifT (by decide +kernel) ?_⟩
        refine ⟨_, rfl, rd_Entry_is_recalled T he ⟨_, rfl, ?_⟩⟩
        cases hc : e.cb with
        | false => exact iteF ⟨_, rfl, _, rfl, iteF (Qb (by simp [hc]) k)⟩
        | true =>
          refine iteT ⟨_, rfl, rd_Entry_state T he ⟨rfl, ⟨_, rfl, _, rfl, ?_⟩⟩⟩
          rw [stq_given]
          by_cases c6 : e.st = .given
          rotate_left
          · exact ifF (decide_eq_false c6) (Qb (by simp [c6]) k)
          refine ifT (decide_eq_true c6) ⟨_, rfl, ixT T ha (.str o) ⟨_, rfl, rd_Entry_receiver T he ⟨?_, _, rfl, ?_⟩⟩⟩
          · cases e.rcv <;> rfl
          · rw [dopt]
            by_cases c7 : some o = e.rcv
            rotate_left
            · exact ifF (decide_eq_false c7) (Qb (by simp [c7]) k)
            refine ifT (decide_eq_true c7) ⟨_, rfl, rd_Entry_is_noted T he ⟨_, rfl, Qb ?_ k⟩⟩
            simp [hc, c6, c7]
    | pad t q =>
      refine ⟨_, rfl, ixT T ha (.str "paid") ?_⟩
      refine ⟨_, rfl, L.bk, dx, _, rfl, hb, nm, _, rfl, ixT T ha (.str t) ⟨L, S, t, rfl, O, ?_⟩⟩
      refine ⟨_, rfl, rfl, _, rfl, ifF (by decide +kernel) ?_⟩
      refine ⟨_, rfl, rfl, _, rfl, ifF (by decide +kernel) ?_⟩
      have k : Q (.bl (match S.get t with | none => false | some e => decide (e.st = .used) && !e.pd && decide (q = e.qty))) H := k
      cases ht : S.get t with
      | none =>
        rw [ht] at k
        rw [entV_none ht]
        exact ⟨_, rfl, rfl, true, rfl, iteT (iteT k)⟩
      | some e =>
        rw [ht] at k
        rw [entV_some ht]
        obtain ⟨de, he⟩ := O.ent t e (gt_mem ht)
        refine ⟨_, rfl, rfl, false, congrArg V.bl dnon_ref, iteF ⟨_, rfl, rd_Entry_state T he ⟨rfl, _, rfl, ?_⟩⟩⟩
        rw [stq_unk]
        by_cases c5 : e.st = .unk
        · refine ifT (decide_eq_true c5) (Qb ?_ k)
          simp [c5]
        refine ifF (decide_eq_false c5) ?_
        refine ⟨_, rfl, rfl, _, rfl, ifF (by decide +kernel) ?_⟩
        refine ⟨_, rfl, rfl, _, rfl, ifF (by decide +kernel) ?_⟩
        refine ⟨_, rfl, rfl, _, rfl, ifF (by decide +kernel) ?_⟩
        refine ⟨_, rfl, rd_Entry_state T he ⟨rfl, _, rfl, ?_⟩⟩
        rw [stq_used]
        by_cases c6 : e.st = .used
        rotate_left
        · exact ifF (decide_eq_false c6) (Qb (by simp [c6]) k)
        refine ifT (decide_eq_true c6) ⟨_, rfl, rd_Entry_is_paid T he ⟨_, rfl, _, rfl, ?_⟩⟩
        cases c7 : e.pd with
        | true => exact iteF (Qb (by simp [c7]) k)
        | false =>
          refine iteT ⟨_, rfl, ixT T ha (.int q) ⟨_, rfl, rd_Entry_quantity T he ⟨rfl, Qb ?_ k⟩⟩⟩
          rw [dint]
          simp [c6, c7]
    | _ => exact False.elim hk
theorem sc_Book_fits : FnScope ["self", "line", "word"] ["self", "line"] (defScope sBook_fits) := ⟨rfl, rfl, rfl, by decide +kernel, rfl, by decide +kernel, by decide +kernel⟩
abbrev Ok_Book_fits (P : Program) (w : World) (K : PySem.W.Frag) (mg : Str → Option Value) (base : Heap) : Prop := Has P w K mg base CX0 3 (fBook_fits K) ["self", "line"] (spFits K)
theorem ok_Book_fits {P : Program} {w : World} {K : PySem.W.Frag} {mg : Str → Option Value} {base : Heap} (T : Txt K mg) (h_Book_fits_got : Ok_Book_fits_got P w K mg base) (h_Book_fits_answer : Ok_Book_fits_answer P w K mg base) : Ok_Book_fits P w K mg base := by
  obtain ⟨fd, F⟩ := T.dBook_fits
  obtain ⟨fd_Book_fits_got, G_Book_fits_got, b_Book_fits_got⟩ := h_Book_fits_got
  obtain ⟨fd_Book_fits_answer, G_Book_fits_answer, b_Book_fits_answer⟩ := h_Book_fits_answer
  refine ⟨fd, FunD.ok (CX := CX0) F sc_Book_fits (fun vs H Q E h => ?_) (fun cdv A outer s H vs Q E hr h => ?_), FunD.bindsN F fun _ _ _ _ _ _ us hl => match us, hl with | [_, _], _ => rfl⟩
  · obtain ⟨L, S, a, ln, rfl, _⟩ := h
    rfl
  · have hu := hu_of hr
    refine ⟨_, PSs.nox (pss_cons (ps_set (i := 2) sc_Book_fits.nd rfl (Or.inl rfl) (pe_ix ix_tup (pv 1) pe_int (fun _ _ => rfl)))
      (pss_cons (ps_if (pt_cmpR op_eq (pv 2) pe_str (nomark _)) (pss_one ps_never) pss_nil)
      (pss_cons (ps_if (pt_cmpR op_eq (pv 2) pe_str (nomark _)) (pss_one ps_never) pss_nil)
      (pss_cons (ps_if (pt_cmpR op_eq (pv 2) pe_str (nomark _)) (pss_one (ps_ret (pe_meth (pv 0) T.cl_Book T.m_Book_fits_got G_Book_fits_got (hr.mono (by decide)) b_Book_fits_got .nil pass0 (pa_cons (pv 1) pa_nil)))) pss_nil)
      (pss_cons (ps_if (pt_cmpR op_eq (pv 2) pe_str (nomark _)) (pss_one ps_never) pss_nil)
      (pss_cons (ps_if (pt_cmpR op_eq (pv 2) pe_str (nomark _)) (pss_one ps_never) pss_nil)
      (pss_cons (ps_if (pt_cmpR op_eq (pv 2) pe_str (nomark _)) (pss_one ps_never) pss_nil)
      (pss_one (ps_ret (pe_meth (pv 0) T.cl_Book T.m_Book_fits_answer G_Book_fits_answer (hr.mono (by decide)) b_Book_fits_answer .nil pass0 (pa_cons (pv 1) pa_nil))))))))))), ?_⟩
    obtain ⟨L, S, a, ln, rfl, O, ha, hk, hn, k⟩ := h
    obtain ⟨dx, hb⟩ := O.bk
    have nmG : (bokF S.name L.en L.pa S.cr S.nx).lookup ("_fits_got" : Str) = none := ln_Book_fits_got _ _ _ _ _
    have nmA : (bokF S.name L.en L.pa S.cr S.nx).lookup ("_fits_answer" : Str) = none := ln_Book_fits_answer _ _ _ _ _
    cases ln with
    | got t h q n s0 =>
      refine ⟨_, rfl, ixT T ha (.str "got") ?_⟩
      refine ⟨_, rfl, rfl, _, rfl, ifF (by decide +kernel) ?_⟩
      refine ⟨_, rfl, rfl, _, rfl, ifF (by decide +kernel) ?_⟩
      refine ⟨_, rfl, rfl, _, rfl, ifT (by decide +kernel) ?_⟩
      exact ⟨_, rfl, L.bk, dx, _, rfl, hb, nmG, _, rfl, L, S, a, t, h, q, n, s0, rfl, O, ha, hn, k⟩
    | pay t o q =>
      refine ⟨_, rfl, ixT T ha (.str "pay") ?_⟩
      refine ⟨_, rfl, rfl, _, rfl, ifF (by decide +kernel) ?_⟩
      refine ⟨_, rfl, rfl, _, rfl, ifF (by decide +kernel) ?_⟩
      refine ⟨_, rfl, rfl, _, rfl, ifF (by decide +kernel) ?_⟩
      refine ⟨_, rfl, rfl, _, rfl, ifF (by decide +kernel) ?_⟩
      refine ⟨_, rfl, rfl, _, rfl, ifF (by decide +kernel) ?_⟩
      refine ⟨_, rfl, rfl, _, rfl, ifF (by decide +kernel) ?_⟩
      exact ⟨_, rfl, L.bk, dx, _, rfl, hb, nmA, _, rfl, L, S, a, _, rfl, O, ha, trivial, k⟩
    | ntc t o =>
      refine ⟨_, rfl, ixT T ha (.str "notice") ?_⟩
      refine ⟨_, rfl, rfl, _, rfl, ifF (by decide +kernel) ?_⟩
      refine ⟨_, rfl, rfl, _, rfl, ifF (by decide +kernel) ?_⟩
      refine ⟨_, rfl, rfl, _, rfl, ifF (by decide +kernel) ?_⟩
      refine ⟨_, rfl, rfl, _, rfl, ifF (by decide +kernel) ?_⟩
      refine ⟨_, rfl, rfl, _, rfl, ifF (by decide +kernel) ?_⟩
      refine ⟨_, rfl, rfl, _, rfl, ifF (by decide +kernel) ?_⟩
      exact ⟨_, rfl, L.bk, dx, _, rfl, hb, nmA, _, rfl, L, S, a, _, rfl, O, ha, trivial, k⟩
    | rcp t n =>
      refine ⟨_, rfl, ixT T ha (.str "receipt") ?_⟩
      refine ⟨_, rfl, rfl, _, rfl, ifF (by decide +kernel) ?_⟩
      refine ⟨_, rfl, rfl, _, rfl, ifF (by decide +kernel) ?_⟩
      refine ⟨_, rfl, rfl, _, rfl, ifF (by decide +kernel) ?_⟩
      refine ⟨_, rfl, rfl, _, rfl, ifF (by decide +kernel) ?_⟩
      refine ⟨_, rfl, rfl, _, rfl, ifF (by decide +kernel) ?_⟩
      refine ⟨_, rfl, rfl, _, rfl, ifF (by decide +kernel) ?_⟩
      exact ⟨_, rfl, L.bk, dx, _, rfl, hb, nmA, _, rfl, L, S, a, _, rfl, O, ha, trivial, k⟩
    | ntd t o =>
      refine ⟨_, rfl, ixT T ha (.str "noted") ?_⟩
      refine ⟨_, rfl, rfl, _, rfl, ifF (by decide +kernel) ?_⟩
      refine ⟨_, rfl, rfl, _, rfl, ifF (by decide +kernel) ?_⟩
      refine ⟨_, rfl, rfl, _, rfl, ifF (by decide +kernel) ?_⟩
      refine ⟨_, rfl, rfl, _, rfl, ifF (by decide +kernel) ?_⟩
      refine ⟨_, rfl, rfl, _, rfl, ifF (by decide +kernel) ?_⟩
      refine ⟨_, rfl, rfl, _, rfl, ifF (by decide +kernel) ?_⟩
      exact ⟨_, rfl, L.bk, dx, _, rfl, hb, nmA, _, rfl, L, S, a, _, rfl, O, ha, trivial, k⟩
    | pad t q =>
      refine ⟨_, rfl, ixT T ha (.str "paid") ?_⟩
      refine ⟨_, rfl, rfl, _, rfl, ifF (by decide +kernel) ?_⟩
      refine ⟨_, rfl, rfl, _, rfl, ifF (by decide +kernel) ?_⟩
      refine ⟨_, rfl, rfl, _, rfl, ifF (by decide +kernel) ?_⟩
      refine ⟨_, rfl, rfl, _, rfl, ifF (by decide +kernel) ?_⟩
      refine ⟨_, rfl, rfl, _, rfl, ifF (by decide +kernel) ?_⟩
      refine ⟨_, rfl, rfl, _, rfl, ifF (by decide +kernel) ?_⟩
      exact ⟨_, rfl, L.bk, dx, _, rfl, hb, nmA, _, rfl, L, S, a, _, rfl, O, ha, trivial, k⟩
    | _ => exact False.elim hk
end LH
namespace LH
open PySem PySem.Spec PyProof.Rows L2
/-! ### every second item of a tuple, from a place on: xs[k::2] -/
def pick2 {α : Type} (xs : List α) (k : Nat) : List α := (List.range (if k < xs.length then (xs.length - k - 1) / 2 + 1 else 0)).filterMap fun m => xs[k + 2 * m]?
theorem vals_pick {xs : List V} {us : List Value} (r : Vals xs us) (f : Nat → Nat) : ∀ l : List Nat, Vals (l.filterMap fun m => xs[f m]?) (l.filterMap fun m => us[f m]?)
  | [] => .nil
  | m :: l => by
    have ih := vals_pick r f l
    cases e : xs[f m]? with
    | none =>
      have e2 := r.none_of e
      rw [List.filterMap_cons, List.filterMap_cons, e, e2]
      exact ih
    | some x =>
      obtain ⟨u, e2, ru⟩ := r.get e
      rw [List.filterMap_cons, List.filterMap_cons, e, e2]
      exact .cons ru ih
theorem pick2_len {α : Type} (xs : List α) (k : Nat) : (pick2 xs k).length ≤ xs.length := by
  unfold pick2
  refine Nat.le_trans (List.length_filterMap_le ..) ?_
  rw [List.length_range]
  split <;> omega
section
variable {prog : Program} {w : World} {A : Around} {E : Value → Shared → Prop} {s : Shared}
theorem adjust2 (k n : Nat) (hk : k ≤ n) : Builtin.Slice.sliceAdjust (some (k : Int)) none 2 (n : Int) = ((k : Int), (n : Int)) := by
  unfold Builtin.Slice.sliceAdjust
  have n2 : ¬ ((2 : Int) < 0) := by decide
  have nk : ¬ ((k : Int) < 0) := by omega
  simp only [n2, nk, if_false]
  refine Prod.ext ?_ rfl
  show min (k : Int) (n : Int) = k
  omega
theorem places2 (k n : Nat) (hk : k ≤ n) : Builtin.Slice.slicePlaces (k : Int) (n : Int) 2 = if k < n then (n - k - 1) / 2 + 1 else 0 := by
  unfold Builtin.Slice.slicePlaces
  rw [if_pos (by decide : (2 : Int) > 0)]
  by_cases h : k < n
  · rw [if_pos h, if_pos (by omega)]
    omega
  · rw [if_neg h, if_neg (by omega)]
    rfl
theorem applied2 {sl : Addr} {tk tk2 : Tok} {k n : Nat} {Q : Int × Int × Nat → Shared → Prop} (hk : k ≤ n) {os : Obj} (ho : s.heap.get? sl = some os) (hd : os.data = .fields #[.int (k : Int) tk, .none, .int 2 tk2])
    (h : Q ((k : Int), 2, if k < n then (n - k - 1) / 2 + 1 else 0) s) : wpAny (model prog w) A (Builtin.Slice.sliceApplied (.ref sl) (pure (n : Int))) Q E s := by
  unfold Builtin.Slice.sliceApplied Builtin.Slice.sliceFields
  refine wpAny_bind (wpAny_bind (wpAny_field ho hd (x := .int (k : Int) tk) rfl (wpAny_bind (wpAny_field ho hd (x := .none) rfl (wpAny_bind (wpAny_field ho hd (x := .int 2 tk2) rfl (wpAny_pure ?_)))))))
  refine wpAny_bind (HT.slicePart_ (.int 2 tk2) ?_)
  show wpAny _ _ (if ((2 : Int) == 0) = true then _ else _) _ _ s
  rw [if_neg (by decide)]
  refine wpAny_bind (HT.slicePart_ (.int (k : Int) tk) (wpAny_bind (HT.slicePart_ .none (wpAny_bind (wpAny_pure ?_)))))
  show wpAny _ _ (match Builtin.Slice.sliceAdjust (some (k : Int)) none 2 (n : Int) with | (lo, hi) => pure (lo, (2 : Int), Builtin.Slice.slicePlaces lo hi 2)) _ _ s
  rw [adjust2 k n hk]
  show wpAny _ _ (pure ((k : Int), (2 : Int), Builtin.Slice.slicePlaces (k : Int) (n : Int) 2)) _ _ s
  rw [places2 k n hk]
  exact wpAny_pure h
theorem tuple2 {t sl : Addr} {us : List Value} {tk tk2 : Tok} {k : Nat} {Q : Value → Shared → Prop} (hT : IsTup s.heap t us.toArray) (hk : k ≤ us.length) {os : Obj} (ho : s.heap.get? sl = some os) (hd : os.data = .fields #[.int (k : Int) tk, .none, .int 2 tk2]) (hc : os.cls = .type "slice")
    (hz : us.length ≤ sizeLine) (h : Q (.ref s.heap.objs.size) { s with heap := s.heap.push { cls := .type "tuple", data := .seq (pick2 us k).toArray } }) : wpAny (model prog w) A (getItem (.ref t) (.ref sl)) Q E s := by
  have fits : sizeOk (.seq (pick2 us k).toArray) := by
    show (pick2 us k).toArray.size ≤ sizeLine
    rw [List.size_toArray]
    exact Nat.le_trans (pick2_len us k) hz
  have isl : s.TypeIs (.ref sl) "slice" := ⟨os, ho, hc⟩
  unfold getItem
  try with_reducible refine wpAny_holding ?_
  first | refine wpAny_bind (wpAny_pure ?_) | skip
  refine wpAny_bind (wpAny_sequenceKey hT.typeIs (by decide) ?_)
  refine wpAny_bind (wpAny_callSpecial?_slot (name := Str.ofString "__getitem__") hT.typeIs PyProof.Rows.slot_tuple_getitem
    (wpAny_call_entry PyProof.Rows.slot_tuple_getitem hT.typeIs entry_tuple_getitem ?_ (args_tuple_getitem _ _)))
  show wpAny _ _ (Builtin.Tuple.tupleItemsOf (.ref t) >>= _) _ _ s
  refine wpAny_bind (tupleItemsOf_ hT ?_)
  refine wpAny_bind (wpAny_typeOf isl ?_)
  rw [if_pos (by decide)]
  have sz : (us.toArray.size : Int) = ((us.length : Nat) : Int) := by rw [List.size_toArray]
  rw [sz]
  refine wpAny_bind (applied2 hk ho hd ?_)
  have other : ¬ (((k : Int) == 0 && (2 : Int) == 1 && (if k < us.length then (us.length - k - 1) / 2 + 1 else 0) == us.toArray.size) = true) := by
    intro q
    rw [Bool.and_eq_true, Bool.and_eq_true] at q
    exact absurd q.1.2 (by decide)
  show wpAny _ _ (if ((k : Int) == 0 && (2 : Int) == 1 && (if k < us.length then (us.length - k - 1) / 2 + 1 else 0) == us.toArray.size) = true then _ else _) _ _ s
  rw [if_neg other]
  have e : ((List.range (if k < us.length then (us.length - k - 1) / 2 + 1 else 0)).filterMap fun (m : Nat) => us.toArray[((k : Int) + (m : Int) * 2).toNat]?).toArray = (pick2 us k).toArray := by
    unfold pick2
    congr 2
    funext m
    have z : ((k : Int) + (m : Int) * 2).toNat = k + 2 * m := by omega
    rw [z]
    exact List.getElem?_toArray
  rw [e]
  first
    | exact wpAny_bind (m := Builtin.Tuple.tupleExact _) (wpAny_newObj_type (wpAny_pure ⟨_, rfl, wpAny_pure h⟩) fits)
    | exact wpAny_bind (m := Builtin.Tuple.tupleExact _) (wpAny_newObj_type (wpAny_bind (wpAny_pure (wpAny_pure ⟨_, rfl, wpAny_pure h⟩))) fits)
    | exact wpAny_bind (wpAny_bind (m := Builtin.Tuple.tupleExact _) (wpAny_newObj_type (wpAny_pure (wpAny_pure ⟨_, rfl, wpAny_pure h⟩)) fits))
    | exact wpAny_bind (wpAny_bind (m := Builtin.Tuple.tupleExact _) (wpAny_newObj_type (wpAny_pure ⟨_, rfl, wpAny_pure h⟩) fits))
end
section
variable {X : Cx} {e : Expr} {te : TE} {pos p2 q1 q2 : Pos} {j1 j2 : Nat}
def rPick (K : PySem.W.Frag) (k : Nat) : V → Hp → VK → Prop := fun x H Q => ∃ a xs, x = .ref a ∧ SqT K H a xs ∧ k ≤ xs.length ∧ ∀ p, H p = none → Q (.ref p) (upd H p (.tup (pick2 xs k)))
theorem pe_pick2 (k : Nat) (he : PE X e te) : PE X (.Subscript e (.Slice (some (.Constant (.int (k : Int)) j1 q1)) none (some (.Constant (.int 2) j2 q2)) p2) pos) (fun σ H Q => te σ H fun x H1 => rPick X.K k x H1 Q) := by
  refine ⟨fun pins s σ H Q I h => ?_⟩
  refine Subscript_ (thn (he.run pins s σ H _ I h) fun v s1 ⟨x, H1, I1, r1, q⟩ => ?_)
  obtain ⟨a, xs, rfl, hx, hk, q⟩ := q
  cases r1
  refine wpAny_Slice ?_
  rw [evalPart_some]
  refine wpAny_Constant_int ?_
  rw [evalPart_none]
  refine wpAny_pure ?_
  rw [evalPart_some]
  refine wpAny_Constant_int ?_
  have I4 : L2.Inv X pins σ H1 { s1 with heap := s1.heap.push { cls := .type "slice", data := .fields #[.int (k : Int) s1.toks, .none, .int 2 (s1.toks + 1)] }, toks := s1.toks + 1 + 1 } :=
    I1.kept (t' := s1.toks + 1 + 1) fun b ob z => Heap.get?_push_of_some _ z
  have go : s1.heap.objs.size < (s1.heap.push { cls := .type "slice", data := .fields #[.int (k : Int) s1.toks, .none, .int 2 (s1.toks + 1)] }).objs.size := by
    rw [Heap.size_push]
    exact Nat.lt_succ_self _
  have hsl : (s1.heap.push { cls := .type "slice", data := .fields #[.int (k : Int) s1.toks, .none, .int 2 (s1.toks + 1)] }).get? s1.heap.objs.size = some { cls := .type "slice", data := .fields #[.int (k : Int) s1.toks, .none, .int 2 (s1.toks + 1)] } := Heap.get?_push_size _ rfl
  obtain ⟨its, r, ht, hz⟩ := I4.tuple hx
  have hlen := r.length
  have hg : wpAny (model X.prog X.w) X.A (getItem (.ref a) (.ref s1.heap.objs.size)) (EP X pins σ Q) X.xe { s1 with heap := s1.heap.push { cls := .type "slice", data := .fields #[.int (k : Int) s1.toks, .none, .int 2 (s1.toks + 1)] }, toks := s1.toks + 1 + 1 } := by
    refine tuple2 ht (by omega) hsl rfl rfl (by omega) ?_
    refine ⟨.ref _, _, I4.laid (t' := s1.toks + 1 + 1) (o := .tup (pick2 xs k)) (fun b ob z => Heap.get?_push_of_some _ z) (Nat.le_refl _) ?_, rfl, q _ (I4.hok.fresh (Nat.le_refl _))⟩
    refine ⟨Nat.le_trans (pick2_len xs k) hz, pick2 its k, ?_, IsTup.new _ _⟩
    unfold pick2
    rw [← hlen]
    exact vals_pick r (fun m => k + 2 * m) _
  exact tail_any (ops := [.ref a, .ref s1.heap.objs.size]) ht.typeIs PyProof.Rows.slot_tuple_getitem.lookup hg (by with_unfolding_all rfl)
/-- what is picked of a split line: the ids from 2, the quantities from 3 -/
theorem pick2_cons2 {α : Type} (a b : α) (xs : List α) (k : Nat) : pick2 (a :: b :: xs) (k + 2) = pick2 xs k := by
  unfold pick2
  have e1 : ((a :: b :: xs).length - (k + 2) - 1) / 2 + 1 = (xs.length - k - 1) / 2 + 1 := by
    simp only [List.length_cons]
    congr 2
    omega
  have e2 : (k + 2 < (a :: b :: xs).length) = (k < xs.length) := by
    simp only [List.length_cons]
    exact propext ⟨fun z => by omega, fun z => by omega⟩
  rw [e1]
  simp only [e2]
  congr 1
  funext m
  have e3 : k + 2 + 2 * m = (k + 2 * m) + 1 + 1 := by omega
  rw [e3, List.getElem?_cons_succ, List.getElem?_cons_succ]
end
end LH
namespace LH
open PySem PySem.Spec PyProof.Rows L2
/-! ### what the lines do -/
def OSt.begin_ (S : OSt) (t : Str) (h : Option Str) (q : Int) : OSt := { S.add t { Ent.new with home := h, qty := q, ep := 1, st := .held } with nx := S.nx + 1 }
theorem line7 {n : Nat} (h : n ≤ 10000000) : n < sizeLine := by
  rw [sizeLine_eq]
  omega
theorem entKV_len (L : Lay) (es : List (Str × Ent)) : (entKV L es).length = es.length := List.length_map ..
/-! ### own objects beside the office -/
section
variable {K : PySem.W.Frag} {H H1 H' : Hp} {L L1 : Lay} {S S1 : OSt}
theorem OffAt.nofoot (h : OffAt K H L S) {p : Addr} (hp : H p = none) : ¬ Foot L S p := fun f => by
  obtain ⟨o, e, _⟩ := h.foot f
  rw [hp] at e
  cases e
theorem OffAt.out (h : OffAt K H L S) {w : Addr} {o : HO} {xs : List V} (hw : ¬ Foot L S w) (hl : H w = some (.lst xs)) : OffAt K (upd H w o) L S := by
  have ne : ∀ {b}, Foot L S b → b ≠ w := fun f e => hw (by rw [← e]; exact f)
  have nt : ∀ {b : Addr} {vs : List V}, H b = some (.tup vs) → b ≠ w := fun q => ne_of q hl (by intro z; cases z)
  refine ⟨?_, ?_, ?_, ?_, ?_, fun t e m => ?_, fun t e m => ?_, h.nd, h.ndp, h.cinj, h.cln, h.enpa⟩
  · obtain ⟨d, q⟩ := h.of
    exact ⟨d, (upd_ne (ne (.inl rfl))).trans q⟩
  · obtain ⟨d, q⟩ := h.bk
    exact ⟨d, (upd_ne (ne (.inr (.inl rfl)))).trans q⟩
  · obtain ⟨ls, l1, q⟩ := h.ln
    exact ⟨ls, l1, (upd_ne (ne (.inr (.inr (.inl rfl))))).trans q⟩
  · exact (upd_ne (ne (.inr (.inr (.inr (.inl rfl)))))).trans h.en
  · obtain ⟨pt, q, r⟩ := h.pa
    exact ⟨pt, (upd_ne (ne (.inr (.inr (.inr (.inr (.inl rfl))))))).trans q, fun p hp => (upd_ne (nt (r p hp))).trans (r p hp)⟩
  · obtain ⟨d, q⟩ := h.ent t e m
    exact ⟨d, (upd_ne (ne (.inr (.inr (.inr (.inr (.inr ⟨t, List.mem_map.mpr ⟨_, m, rfl⟩, .inl rfl⟩))))))).trans q⟩
  · exact (upd_ne (ne (.inr (.inr (.inr (.inr (.inr ⟨t, List.mem_map.mpr ⟨_, m, rfl⟩, .inr rfl⟩))))))).trans (h.chl t e m)
/-- an own list (new since H) changes -/
theorem Stp.own (st : Stp K H L S H1 L1 S1) {w : Addr} {o : HO} {xs : List V} (h0 : H w = none) (hw : ¬ Foot L1 S1 w) (hl : H1 w = some (.lst xs)) : Stp K H L S (upd H1 w o) L1 S1 where
  at_ := st.at_.out hw hl
  fr := ⟨fun b u e n => by
    rw [upd_ne (ne_of_none e h0)]
    exact st.fr.keep b u e n, st.fr.new, fun b hb => by
    by_cases z : b = w
    · rw [z, upd_same]
      intro q
      cases q
    · rw [upd_ne z]
      exact st.fr.grow b hb⟩
  ex := st.ex
  ks := st.ks
  nm := st.nm
/-- an own object is made -/
theorem Stp.more (st : Stp K H L S H1 L1 S1) {p : Addr} {o : HO} (hp : H1 p = none) : Stp K H L S (upd H1 p o) L1 S1 := st.trans (Stp.same st.at_ (Same.upd hp))
theorem Frm.old {F F' : Addr → Prop} (fr : Frm H F H' F') {p : Addr} (hp : H' p = none) : H p = none := by
  cases e : H p with
  | none => rfl
  | some o => exact absurd hp (fr.grow p (by rw [e]; intro z; cases z))
/-- an own object stays -/
theorem Stp.still (st : Stp K H L S H1 L1 S1) {p : Addr} {o : HO} (hp : H p = some o) (nf : ¬ Foot L S p) : H1 p = some o ∧ ¬ Foot L1 S1 p := ⟨st.fr.keep p o hp nf, fun f => by
  rcases st.fr.new p f with q | q
  · exact nf q
  · rw [hp] at q
    cases q⟩
end
def spBegin (K : PySem.W.Frag) : Sp := fun vs H Q _ => ∃ (L : Lay) (S : OSt) (t : Str) (h : Option Str) (q : Int), vs = [.ref L.bk, .str t, optV h, .int q] ∧ OffAt K H L S ∧ S.get t = none ∧ S.es.length ≤ 1000000 ∧
  ∀ H' L', Stp K H L S H' L' (S.begin_ t h q) → Q .non H'
theorem sc_Book_begin : FnScope ["self", "thing", "home", "quantity", "made"] ["self", "thing", "home", "quantity"] (defScope sBook_begin) := ⟨rfl, rfl, rfl, by decide +kernel, rfl, by decide +kernel, by decide +kernel⟩
abbrev Ok_Book_begin (P : Program) (w : World) (K : PySem.W.Frag) (mg : Str → Option Value) (base : Heap) : Prop := Has P w K mg base CX0 3 (fBook_begin K) ["self", "thing", "home", "quantity"] (spBegin K)
theorem ok_Book_begin {P : Program} {w : World} {K : PySem.W.Frag} {mg : Str → Option Value} {base : Heap} (T : Txt K mg) (h_Entry_init : Ok_Entry_init P w K mg base) (h_Entry_begin : Ok_Entry_begin P w K mg base) : Ok_Book_begin P w K mg base := by
  obtain ⟨fd, F⟩ := T.dBook_begin
  obtain ⟨fd_Entry_init, G_Entry_init, b_Entry_init⟩ := h_Entry_init
  obtain ⟨fd_Entry_begin, G_Entry_begin, b_Entry_begin⟩ := h_Entry_begin
  refine ⟨fd, FunD.ok (CX := CX0) F sc_Book_begin (fun vs H Q E h => ?_) (fun cdv A outer s H vs Q E hr h => ?_), FunD.bindsN F fun _ _ _ _ _ _ us hl => match us, hl with | [_, _, _, _], _ => rfl⟩
  · obtain ⟨L, S, t, h, q, rfl, _⟩ := h
    rfl
  · have hu := hu_of hr
    refine ⟨_, PSs.nox (pss_cons (ps_set (i := 4) sc_Book_begin.nd rfl (Or.inl rfl) (pe_make T.mk_Entry G_Entry_init (hr.mono (by decide)) rfl T.g_Entry b_Entry_init .nil pass0 (pa_cons (pv 1) pa_nil)))
      (pss_cons (ps_expr (pe_meth (pv 4) T.cl_Entry T.m_Entry_begin G_Entry_begin (hr.mono (by decide)) b_Entry_begin .nil pass0 (pa_cons (pv 2) (pa_cons (pv 3) (pa_cons pe_int pa_nil)))))
      (pss_cons (ps_dput hu (pe_fld (pv 0) rfl) (pv 1) (pv 4) rfl)
      (pss_one (ps_fld (pv 0) (pe_op op_add (pe_fld (pv 0) rfl) pe_int) rfl))))), ?_⟩
    obtain ⟨L, S, t, h, q, rfl, O, ht, hz, k⟩ := h
    obtain ⟨db, hb⟩ := O.bk
    refine ⟨_, rfl, fun p dx hp hdx ne => ⟨p, dx, t, rfl, upd_same, fun c H1 hc ncp h1 h2 hk => ?_⟩⟩
    have hcx : c ≠ dx ∧ H c = none := by
      rw [upd_ne ncp] at hc
      have z : c ≠ dx := fun z => by
        rw [z, upd_same] at hc
        cases hc
      rw [upd_ne z] at hc
      exact ⟨z, hc⟩
    have s1 : Same H H1 := fun b o e => by
      have n1 := ne_of_none e hp
      have n2 := ne_of_none e hcx.2
      rw [hk b n1 n2, upd_ne n1, upd_ne (ne_of_none e hdx)]
      exact e
    -- made.begin(home, quantity, 1)
    refine ⟨rfl, _, rfl, p, dx, _, rfl, h1, ln_Entry_begin _ _ _, _, rfl, _, rfl, p, dx, c, t, Ent.new, h, q, 1, rfl, h1, ?_⟩
    have s2 : Same H (upd H1 p (.ins (cEntry K) dx (entF t { Ent.new with home := h, qty := q, ep := 1, st := .held } c))) := fun b o e => by
      rw [upd_ne (ne_of_none e hp)]
      exact s1 b o e
    have O2 := O.same s2
    have st := stp_add (K := K) (e := { Ent.new with home := h, qty := q, ep := 1, st := .held }) O s2 ht hp hcx.2 upd_same (by rw [upd_ne ncp]; exact h2)
    -- self.entries[thing] = made
    refine ⟨_, rfl, _, rfl, rd_Book_entries T (s2 _ _ hb) ⟨_, rfl, L.en, _, rfl, DPut.k (k := Sum.inr t) O2.en (by rw [entKV_len]; exact line7 (by omega)), ?_⟩⟩
    -- self.next_number = self.next_number + 1
    obtain ⟨d2, hb2⟩ := st.at_.bk
    refine ⟨_, rfl, rd_Book_next_number T hb2 ⟨_, _, rfl, rfl, _, rfl, L.bk, cBook K, d2, _, rfl, hb2, T.cl_Book, T.n_Book_next_number, (of_decide_eq_true (by kernel_rfl)), ?_⟩⟩
    rw [pt_Book_next_number]
    exact k _ _ (st.trans (stp_book st.at_ S.cr (S.nx + 1) hb2))
def OSt.give_ (S : OSt) (t : Str) (n : Int) (r : Str) : OSt := S.mod t fun e => { e with st := .given, ep := n, rcv := some r, rd := false }
def spGive (K : PySem.W.Frag) : Sp := fun vs H Q _ => ∃ (L : Lay) (S : OSt) (t : Str) (e : Ent) (n : Int) (r : Str), vs = [.ref L.bk, .ref (L.ea t), .int n, .str r] ∧ OffAt K H L S ∧ S.get t = some e ∧ ∀ H', Stp K H L S H' L (S.give_ t n r) → Q .non H'
theorem sc_Book_give : FnScope ["self", "found", "epoch", "receiver"] ["self", "found", "epoch", "receiver"] (defScope sBook_give) := ⟨rfl, rfl, rfl, by decide +kernel, rfl, by decide +kernel, by decide +kernel⟩
abbrev Ok_Book_give (P : Program) (w : World) (K : PySem.W.Frag) (mg : Str → Option Value) (base : Heap) : Prop := Has P w K mg base CX0 1 (fBook_give K) ["self", "found", "epoch", "receiver"] (spGive K)
theorem ok_Book_give {P : Program} {w : World} {K : PySem.W.Frag} {mg : Str → Option Value} {base : Heap} (T : Txt K mg) : Ok_Book_give P w K mg base := by
  obtain ⟨fd, F⟩ := T.dBook_give
  refine ⟨fd, FunD.ok (CX := CX0) F sc_Book_give (fun vs H Q E h => ?_) (fun cdv A outer s H vs Q E hr h => ?_), FunD.bindsN F fun _ _ _ _ _ _ us hl => match us, hl with | [_, _, _, _], _ => rfl⟩
  · obtain ⟨L, S, t, e, n, r, rfl, _⟩ := h
    rfl
  · have hu := hu_of hr
    refine ⟨_, PSs.nox (pss_cons (ps_fld (pv 1) pe_str rfl)
      (pss_cons (ps_fld (pv 1) (pv 2) rfl)
      (pss_cons (ps_fld (pv 1) (pv 3) rfl)
      (pss_one (ps_fld (pv 1) pe_bl rfl))))), ?_⟩
    obtain ⟨L, S, t, e, n, r, rfl, O, ht, k⟩ := h
    obtain ⟨dx, he⟩ := O.ent t e (gt_mem ht)
    refine ⟨_, rfl, L.ea t, cEntry K, dx, _, rfl, he, T.cl_Entry, T.n_Entry_state, (of_decide_eq_true (by kernel_rfl)), ?_⟩
    have e1 := pt_Entry_state t e (L.ca t) .given
    have e2 : Stt.given.str = ("given" : Str) := rfl
    rw [e2] at e1
    rw [e1]
    refine ⟨_, rfl, _, rfl, L.ea t, cEntry K, dx, _, rfl, upd_same, T.cl_Entry, T.n_Entry_epoch, (of_decide_eq_true (by kernel_rfl)), ?_⟩
    rw [pt_Entry_epoch, upd_upd]
    refine ⟨_, rfl, _, rfl, L.ea t, cEntry K, dx, _, rfl, upd_same, T.cl_Entry, T.n_Entry_receiver, (of_decide_eq_true (by kernel_rfl)), ?_⟩
    have e3 := pt_Entry_receiver t { e with st := .given, ep := n } (L.ca t) (some r)
    have e4 : optV (some r) = V.str r := rfl
    rw [e4] at e3
    rw [e3, upd_upd]
    refine ⟨_, rfl, L.ea t, cEntry K, dx, _, rfl, upd_same, T.cl_Entry, T.n_Entry_is_received, (of_decide_eq_true (by kernel_rfl)), ?_⟩
    rw [pt_Entry_is_received, upd_upd]
    exact k _ (stp_ent (e := e) O (f := fun e => { e with st := .given, ep := n, rcv := some r, rd := false }) ht he rfl)
def gotF (h : Str) (q n : Int) (e : Ent) : Ent := { e with home := some h, qty := q, ep := n, st := .held }
def OSt.know (S : OSt) (t : Str) : OSt := if (S.get t).isNone then S.add t Ent.new else S
def OSt.got_ (S : OSt) (t h : Str) (q n : Int) : OSt := (S.know t).mod t (gotF h q n)
theorem know_get (S : OSt) (t : Str) : ∃ e, (S.know t).get t = some e := by
  unfold OSt.know
  cases e : S.get t with
  | none => exact ⟨Ent.new, (gt_snoc t t Ent.new S.es e).trans (if_pos rfl)⟩
  | some x => exact ⟨x, e⟩
theorem know_none {S : OSt} {t : Str} (h : S.get t = none) : S.know t = S.add t Ent.new := by
  unfold OSt.know
  rw [h]
  rfl
theorem know_some {S : OSt} {t : Str} {e : Ent} (h : S.get t = some e) : S.know t = S := by
  unfold OSt.know
  rw [h]
  rfl
theorem valV_some {L : Lay} {S : OSt} {t : Str} {e : Ent} (h : S.get t = some e) : valV (entKV L S.es) (Sum.inr t : Key) = some (V.ref (L.ea t)) := by
  rw [valV_ent]
  have : gt S.es t = some e := h
  rw [this]
  rfl
theorem valV_none {L : Lay} {S : OSt} {t : Str} (h : S.get t = none) : valV (entKV L S.es) (Sum.inr t : Key) = none := by
  rw [valV_ent]
  have : gt S.es t = none := h
  rw [this]
  rfl
theorem dget_some {H : Hp} {L : Lay} {S : OSt} {t : Str} {e : Ent} (hen : H L.en = some (.dK (entKV L S.es))) (h : S.get t = some e) : DGet H L.en (.str t) (some (V.ref (L.ea t))) := by
  have q := DGet.k (k := (Sum.inr t : Key)) hen
  rw [valV_some h] at q
  exact q
/-- a new unknown entry: what Entry(thing) leaves, put into the book -/
theorem stp_new {K : PySem.W.Frag} {H H1 : Hp} {L : Lay} {S : OSt} {t : Str} {p dx c : Addr} (O : OffAt K H L S) (ht : S.get t = none) (hp : H p = none) (hdx : H dx = none) (hc : (upd (upd H dx (.own p)) p (.ins (cEntry K) dx [])) c = none) (ncp : c ≠ p)
    (h1 : H1 p = some (.ins (cEntry K) dx (entF t Ent.new c))) (h2 : H1 c = some (.lst [])) (hk : ∀ b, b ≠ p → b ≠ c → H1 b = (upd (upd H dx (.own p)) p (.ins (cEntry K) dx [])) b) :
    Same H H1 ∧ Stp K H L S (upd H1 L.en (.dK (putK (entKV L S.es) (Sum.inr t) (.ref p)))) (L.add t p c) (S.add t Ent.new) := by
  have hcH : H c = none := by
    rw [upd_ne ncp] at hc
    have z : c ≠ dx := fun z => by
      rw [z, upd_same] at hc
      cases hc
    rw [upd_ne z] at hc
    exact hc
  have s1 : Same H H1 := fun b o e => by
    have n1 := ne_of_none e hp
    have n2 := ne_of_none e hcH
    rw [hk b n1 n2, upd_ne n1, upd_ne (ne_of_none e hdx)]
    exact e
  exact ⟨s1, stp_add (e := Ent.new) O s1 ht hp hcH h1 h2⟩
def spGot (K : PySem.W.Frag) : Sp := fun vs H Q _ => ∃ (L : Lay) (S : OSt) (a : Addr) (t h : Str) (q n : Int) (s : Str), vs = [.ref L.bk, .ref a] ∧ OffAt K H L S ∧ H a = some (.tup (Line.got t h q n s).enc) ∧ S.es.length ≤ 1000000 ∧
  ∀ H' L', Stp K H L S H' L' (S.got_ t h q n) → Q .non H'
theorem sc_Book_got : FnScope ["self", "line"] ["self", "line"] (defScope sBook_got) := ⟨rfl, rfl, rfl, by decide +kernel, rfl, by decide +kernel, by decide +kernel⟩
abbrev Ok_Book_got (P : Program) (w : World) (K : PySem.W.Frag) (mg : Str → Option Value) (base : Heap) : Prop := Has P w K mg base CX0 3 (fBook_got K) ["self", "line"] (spGot K)
theorem ok_Book_got {P : Program} {w : World} {K : PySem.W.Frag} {mg : Str → Option Value} {base : Heap} (T : Txt K mg) (h_Entry_init : Ok_Entry_init P w K mg base) (h_Entry_begin : Ok_Entry_begin P w K mg base) : Ok_Book_got P w K mg base := by
  obtain ⟨fd, F⟩ := T.dBook_got
  obtain ⟨fd_Entry_init, G_Entry_init, b_Entry_init⟩ := h_Entry_init
  obtain ⟨fd_Entry_begin, G_Entry_begin, b_Entry_begin⟩ := h_Entry_begin
  refine ⟨fd, FunD.ok (CX := CX0) F sc_Book_got (fun vs H Q E h => ?_) (fun cdv A outer s H vs Q E hr h => ?_), FunD.bindsN F fun _ _ _ _ _ _ us hl => match us, hl with | [_, _], _ => rfl⟩
  · obtain ⟨L, S, a, t, h, q, n, s, rfl, _⟩ := h
    rfl
  · have hu := hu_of hr
    refine ⟨_, PSs.nox (pss_cons (ps_if (pt_cmp (pc_dnotin hu (pe_ix ix_tup (pv 1) pe_int (fun _ _ => rfl)) (pe_fld (pv 0) rfl))) (pss_one (ps_dput hu (pe_fld (pv 0) rfl) (pe_ix ix_tup (pv 1) pe_int (fun _ _ => rfl)) (pe_make T.mk_Entry G_Entry_init (hr.mono (by decide)) rfl T.g_Entry b_Entry_init .nil pass0 (pa_cons (pe_ix ix_tup (pv 1) pe_int (fun _ _ => rfl)) pa_nil)) rfl)) pss_nil)
      (pss_one (ps_expr (pe_meth (pe_dget hu (pe_fld (pv 0) rfl) (pe_ix ix_tup (pv 1) pe_int (fun _ _ => rfl)) (fun _ _ => rfl)) T.cl_Entry T.m_Entry_begin G_Entry_begin (hr.mono (by decide)) b_Entry_begin .nil pass0 (pa_cons (pe_ix ix_tup (pv 1) pe_int (fun _ _ => rfl)) (pa_cons (pe_ix ix_tup (pv 1) pe_int (fun _ _ => rfl)) (pa_cons (pe_ix ix_tup (pv 1) pe_int (fun _ _ => rfl)) pa_nil))))))), ?_⟩
    obtain ⟨L, S, a, t, h, q, n, s0, rfl, O, ha, hz, k⟩ := h
    obtain ⟨db, hb⟩ := O.bk
    -- the second half
    have last : ∀ {H1 : Hp} {L1 : Lay}, Stp K H L S H1 L1 (S.know t) → H1 a = some (.tup (Line.got t h q n s0).enc) →
        tDrop (tMeth (cEntry K) "begin" (spEntBegin K) [] E0 (tDGet (tFld K (tVar 0) "entries") (tOp (rIxT K) (tVar 1) (tC (.int 1)))) (tCons (tOp (rIxT K) (tVar 1) (tC (.int 2))) (tCons (tOp (rIxT K) (tVar 1) (tC (.int 3))) (tCons (tOp (rIxT K) (tVar 1) (tC (.int 4))) tNil))))
          { nx := fun x H' => Q V.non H', rt := Q } [some (.ref L.bk), some (.ref a)] H1 := fun {H1 L1} st ha1 => by
      obtain ⟨e, he⟩ := know_get S t
      obtain ⟨d1, hb1⟩ := st.at_.bk
      obtain ⟨dx, hx⟩ := st.at_.ent t e (gt_mem he)
      rw [st.ex.bk] at hb1
      refine ⟨_, rfl, rd_Book_entries T hb1 ⟨_, rfl, ixT T ha1 (.str t) ⟨L1.en, _, rfl, dget_some st.at_.en he, L1.ea t, dx, _, rfl, hx, ln_Entry_begin _ _ _, ?_⟩⟩⟩
      refine ⟨_, rfl, ixT T ha1 (.str h) ⟨_, rfl, ixT T ha1 (.int q) ⟨_, rfl, ixT T ha1 (.int n) ?_⟩⟩⟩
      exact ⟨L1.ea t, dx, L1.ca t, t, e, some h, q, n, rfl, hx, k _ _ (st.trans (stp_ent (e := e) st.at_ (f := gotF h q n) he hx rfl))⟩
    refine ⟨_, rfl, ixT T ha (.str t) ⟨_, rfl, rd_Book_entries T hb ⟨L.en, _, rfl, DGet.k (k := Sum.inr t) O.en, _, rfl, ?_⟩⟩⟩
    cases ht : S.get t with
    | some e =>
      rw [valV_some ht]
      refine iteF ?_
      have st0 : Stp K H L S H L (S.know t) := by
        rw [know_some ht]
        exact Stp.refl O
      exact last st0 ha
    | none =>
      rw [valV_none ht]
      refine iteT ?_
      refine ⟨_, rfl, ixT T ha (.str t) (fun p dx hp hdx ne => ⟨p, dx, t, rfl, upd_same, fun c H1 hc ncp h1 h2 hk => ?_⟩)⟩
      obtain ⟨s1, st⟩ := stp_new O ht hp hdx hc ncp h1 h2 hk
      have O1 := O.same s1
      refine ⟨rfl, _, rfl, rd_Book_entries T (s1 _ _ hb) ⟨_, rfl, ixT T (s1 _ _ ha) (.str t) ⟨L.en, _, rfl, DPut.k (k := Sum.inr t) O1.en (by rw [entKV_len]; exact line7 (by omega)), ?_⟩⟩⟩
      have st0 := st
      rw [← know_none ht] at st0
      exact last st0 (st.fr.tup O ha)
end LH
namespace LH
open PySem PySem.Spec PyProof.Rows L2
theorem pick2_c0 {α : Type} (a b : α) (xs : List α) : pick2 (a :: b :: xs) 0 = a :: pick2 xs 0 := by
  unfold pick2
  have e1 : (if 0 < (a :: b :: xs).length then ((a :: b :: xs).length - 0 - 1) / 2 + 1 else 0) = (if 0 < xs.length then (xs.length - 0 - 1) / 2 + 1 else 0) + 1 := by
    rw [if_pos (by simp)]
    by_cases h : 0 < xs.length
    · rw [if_pos h]
      simp only [List.length_cons]
      omega
    · rw [if_neg h]
      simp only [List.length_cons]
      omega
  rw [e1, List.range_succ_eq_map, List.filterMap_cons, List.filterMap_map]
  show a :: _ = _
  congr 2
theorem pick2_c1 {α : Type} (a b : α) (xs : List α) : pick2 (a :: b :: xs) 1 = b :: pick2 xs 1 := by
  unfold pick2
  have e1 : (if 1 < (a :: b :: xs).length then ((a :: b :: xs).length - 1 - 1) / 2 + 1 else 0) = (if 1 < xs.length then (xs.length - 1 - 1) / 2 + 1 else 0) + 1 := by
    rw [if_pos (by simp)]
    by_cases h : 1 < xs.length
    · rw [if_pos h]
      simp only [List.length_cons]
      omega
    · rw [if_neg h]
      simp only [List.length_cons]
      omega
  rw [e1, List.range_succ_eq_map, List.filterMap_cons, List.filterMap_map]
  show b :: _ = _
  congr 2
def flatP (ps : List (Str × Int)) : List V := ps.flatMap fun p => [V.str p.1, V.int p.2]
theorem pick2_ids : ∀ ps : List (Str × Int), pick2 (flatP ps) 0 = ps.map fun p => V.str p.1
  | [] => rfl
  | p :: r => by
    show pick2 (V.str p.1 :: V.int p.2 :: flatP r) 0 = _
    rw [pick2_c0, pick2_ids r]
    rfl
theorem pick2_qs : ∀ ps : List (Str × Int), pick2 (flatP ps) 1 = ps.map fun p => V.int p.2
  | [] => rfl
  | p :: r => by
    show pick2 (V.str p.1 :: V.int p.2 :: flatP r) 1 = _
    rw [pick2_c1, pick2_qs r]
    rfl
def partStep (t : Str) (h : Option Str) (S : OSt) (p : Str × Int) : OSt := (S.mod t fun e => { e with ch := e.ch ++ [p.1] }).begin_ p.1 h p.2
def OSt.split_ (S : OSt) (t : Str) (h : Option Str) (ps : List (Str × Int)) : OSt := ps.foldl (partStep t h) (S.mod t fun e => { e with st := .split })
theorem part_keys (t : Str) (h : Option Str) (S : OSt) (p : Str × Int) : (partStep t h S p).es.map (·.1) = S.es.map (·.1) ++ [p.1] := by
  show ((S.mod t _).add p.1 _).es.map (·.1) = _
  rw [add_keys, keys_md]
theorem mod_get (S : OSt) (t u : Str) (f : Ent → Ent) : (S.mod t f).get u = (S.get u).map fun x => if u = t then f x else x := gt_md f t u S.es
theorem mod_same {S : OSt} {t : Str} {e : Ent} (f : Ent → Ent) (h : S.get t = some e) : (S.mod t f).get t = some (f e) := by
  rw [mod_get, h]
  show some (if t = t then f e else e) = _
  rw [if_pos rfl]
theorem mod_other {S : OSt} {t u : Str} (f : Ent → Ent) (h : u ≠ t) : (S.mod t f).get u = S.get u := by
  rw [mod_get]
  cases S.get u with
  | none => rfl
  | some x =>
    show some (if u = t then f x else x) = _
    rw [if_neg h]
theorem add_get {S : OSt} {t : Str} (e : Ent) (u : Str) (h : S.get t = none) : (S.add t e).get u = if u = t then some e else S.get u := gt_snoc t u e S.es h
theorem begin_get {S : OSt} {t : Str} (h : Option Str) (q : Int) (u : Str) (ht : S.get t = none) : (S.begin_ t h q).get u = if u = t then some { Ent.new with home := h, qty := q, ep := 1, st := .held } else S.get u := add_get _ u ht
def spSplit (K : PySem.W.Frag) : Sp := fun vs H Q _ => ∃ (L : Lay) (S : OSt) (a : Addr) (t : Str) (e : Ent) (ps : List (Str × Int)), vs = [.ref L.bk, .ref a] ∧ OffAt K H L S ∧ H a = some (.tup (Line.spl t ps).enc) ∧ S.get t = some e ∧
  (∀ p ∈ ps, ¬ p.1 ∈ S.es.map (·.1)) ∧ (ps.map (·.1)).Nodup ∧ S.es.length + ps.length ≤ 1000000 ∧ e.ch.length + ps.length ≤ 1000000 ∧ ps ≠ [] ∧
  ∀ H' L', Stp K H L S H' L' (S.split_ t e.home ps) → Q .non H'
theorem keys_len (S : OSt) : (S.es.map (·.1)).length = S.es.length := List.length_map ..
theorem sc_Book_split : FnScope ["self", "line", "found", "thing", "quantity"] ["self", "line"] (defScope sBook_split) := ⟨rfl, rfl, rfl, by decide +kernel, rfl, by decide +kernel, by decide +kernel⟩
abbrev Ok_Book_split (P : Program) (w : World) (K : PySem.W.Frag) (mg : Str → Option Value) (base : Heap) : Prop := Has P w K mg base CX0 4 (fBook_split K) ["self", "line"] (spSplit K)
theorem ok_Book_split {P : Program} {w : World} {K : PySem.W.Frag} {mg : Str → Option Value} {base : Heap} (T : Txt K mg) (h_Book_begin : Ok_Book_begin P w K mg base) : Ok_Book_split P w K mg base := by
  obtain ⟨fd, F⟩ := T.dBook_split
  obtain ⟨fd_Book_begin, G_Book_begin, b_Book_begin⟩ := h_Book_begin
  refine ⟨fd, FunD.ok (CX := CX0) F sc_Book_split (fun vs H Q E h => ?_) (fun cdv A outer s H vs Q E hr h => ?_), FunD.bindsN F fun _ _ _ _ _ _ us hl => match us, hl with | [_, _], _ => rfl⟩
  · obtain ⟨L, S, a, t, e, ps, rfl, _⟩ := h
    rfl
  · have hu := hu_of hr
    refine ⟨_, PSs.nox (pss_cons (ps_set (i := 2) sc_Book_split.nd rfl (Or.inl rfl) (pe_dget hu (pe_fld (pv 0) rfl) (pe_ix ix_tup (pv 1) pe_int (fun _ _ => rfl)) (fun _ _ => rfl)))
      (pss_cons (ps_fld (pv 2) pe_str rfl)
      (pss_one (ps_for PassesOwn.never rfl (RZ.pi_zipA (by rfl) T.b_zip (pa_cons (pe_pick2 2 (pv 1)) (pa_cons (pe_pick2 3 (pv 1)) pa_nil))) (pg_tup rfl (pgs_cons (pg_name (i := 3) sc_Book_split.nd rfl (Or.inl rfl)) (pgs_cons (pg_name (i := 4) sc_Book_split.nd rfl (Or.inl rfl)) pgs_nil))) (pss_cons (ps_expr (pe_bm PySem.F.plainAttrs_list PySem.F.slot_list_append PySem.F.type_list_append mt_append (pe_fld (pv 2) rfl) (pa_cons (pv 3) pa_nil)))
      (pss_one (ps_expr (pe_meth (pv 0) T.cl_Book T.m_Book_begin G_Book_begin (hr.mono (by decide)) b_Book_begin .nil pass0 (pa_cons (pv 3) (pa_cons (pe_fld (pv 2) rfl) (pa_cons (pv 4) pa_nil))))))))))), ?_⟩
    obtain ⟨L, S, a, t, e, ps, rfl, O, ha, ht, hnew, hnd, hz, hc, hne, k⟩ := h
    obtain ⟨db, hb⟩ := O.bk
    obtain ⟨dx, hx⟩ := O.ent t e (gt_mem ht)
    have enc : (Line.spl t ps).enc = .str "split" :: .str t :: flatP ps := rfl
    rw [enc] at ha
    -- found = self.entries[line[1]]; found.state = "split"
    refine ⟨_, rfl, rd_Book_entries T hb ⟨_, rfl, ixT T ha (.str t) (hv := atI_nat (j := 1) rfl) ⟨L.en, _, rfl, dget_some O.en ht, ?_⟩⟩⟩
    refine ⟨_, rfl, L.ea t, cEntry K, dx, _, rfl, hx, T.cl_Entry, T.n_Entry_state, (of_decide_eq_true (by kernel_rfl)), ?_⟩
    have e1 := pt_Entry_state t e (L.ca t) .split
    have e2 : Stt.split.str = ("split" : Str) := rfl
    rw [e2] at e1
    rw [e1]
    have st1 := stp_ent (e := e) O (f := fun e => { e with st := .split }) ht hx rfl
    generalize hH1 : upd H (L.ea t) (.ins (cEntry K) dx (entF t { e with st := .split } (L.ca t))) = H1 at st1 ⊢
    have ha1 := st1.fr.tup O ha
    -- zip(line[2::2], line[3::2])
    refine ⟨_, rfl, a, _, rfl, SqT.of ha1, by show 2 ≤ (flatP ps).length + 1 + 1; omega, fun A hA => ?_⟩
    have e5 : pick2 (V.str "split" :: V.str t :: flatP ps) 2 = ps.map fun p => V.str p.1 := (pick2_cons2 _ _ _ 0).trans (pick2_ids ps)
    rw [e5]
    have ha2 := (upd_ne (o := HO.tup (ps.map fun p => V.str p.1)) (ne_of_none ha1 hA)).trans ha1
    refine ⟨_, rfl, a, _, rfl, SqT.of ha2, ?_, fun B hB => ?_⟩
    · show 3 ≤ (flatP ps).length + 1 + 1
      cases ps with
      | nil => exact absurd rfl hne
      | cons p r =>
        show 3 ≤ (V.str p.1 :: V.int p.2 :: flatP r).length + 1 + 1
        rw [List.length_cons, List.length_cons]
        omega
    have e6 : pick2 (V.str "split" :: V.str t :: flatP ps) 3 = ps.map fun p => V.int p.2 := (pick2_cons2 _ _ _ 1).trans (pick2_qs ps)
    rw [e6]
    have nAB : A ≠ B := ne_of_none upd_same hB
    have st2 := (st1.more hA (o := HO.tup (ps.map fun p => V.str p.1))).more hB (o := HO.tup (ps.map fun p => V.int p.2))
    have hA2 := (upd_ne (o := HO.tup (ps.map fun p => V.int p.2)) nAB).trans (upd_same (H := H1) (a := A) (o := HO.tup (ps.map fun p => V.str p.1)))
    have hB2 := upd_same (H := upd H1 A (HO.tup (ps.map fun p => V.str p.1))) (a := B) (o := HO.tup (ps.map fun p => V.int p.2))
    generalize hH2 : upd (upd H1 A (HO.tup (ps.map fun p => V.str p.1))) B (HO.tup (ps.map fun p => V.int p.2)) = H2 at st2 hA2 hB2 ⊢
    have O2 := st2.at_
    have g0 : (S.mod t fun e => { e with st := .split }).get t = some { e with st := .split } := mod_same _ ht
    refine ⟨A, B, _, _, rfl, .inr ⟨SqT.of hA2, SqT.of hB2, RZ.for_zipT (K := K) (a := A) (b := B) (xs := ps.map fun p => V.str p.1) (ys := ps.map fun p => V.int p.2) (by simp)
      (fun i σ H' => ∃ (L' : Lay) (Si : OSt) (e' : Ent) (v3 v4 : Option V), σ = [some (.ref L.bk), some (.ref a), some (.ref (L.ea t)), v3, v4] ∧ Stp K H2 L (S.mod t fun e => { e with st := .split }) H' L' Si ∧ Si = (ps.take i).foldl (partStep t e.home) (S.mod t fun e => { e with st := .split }) ∧
        Si.get t = some e' ∧ e'.home = e.home ∧ e'.ch.length ≤ e.ch.length + i ∧ Si.es.map (·.1) = S.es.map (·.1) ++ (ps.take i).map (·.1))
      ⟨L, _, _, none, none, rfl, Stp.refl O2, rfl, g0, rfl, Nat.le_refl _, ?_⟩ ?_ ?_ ?_⟩⟩
    · rw [keys_md]
      simp
    · rintro i σ H' ⟨L', Si, e', v3, v4, rfl, st, _⟩
      exact ⟨SqT.of (st.fr.tup O2 hA2), SqT.of (st.fr.tup O2 hB2)⟩
    · rintro i x y Z σ H' hx0 hy0 ⟨L', Si, e', v3, v4, rfl, st, hSi, hg, hh, hcl, hks⟩ hZ
      obtain ⟨p, hp, rfl, rfl⟩ : ∃ p, ps[i]? = some p ∧ x = V.str p.1 ∧ y = V.int p.2 := by
        rw [List.getElem?_map] at hx0 hy0
        cases e : ps[i]? with
        | none =>
          rw [e] at hx0
          cases hx0
        | some p =>
          rw [e] at hx0 hy0
          exact ⟨p, rfl, (Option.some.inj hx0).symm, (Option.some.inj hy0).symm⟩
      have hil := (List.getElem?_eq_some_iff.mp hp).1
      have st3 := st.more hZ (o := HO.tup [V.str p.1, V.int p.2])
      refine ⟨Z, _, rfl, SqT.of upd_same, rfl, _, _, rfl, _, _, rfl, rfl, ?_⟩
      have ea : L'.ea t = L.ea t := st.ex.ea t (by rw [keys_md]; exact key_of ht)
      obtain ⟨dy, hy⟩ := st3.at_.ent t e' (gt_mem hg)
      rw [ea] at hy
      have hch := st3.at_.chl t e' (gt_mem hg)
      -- found.children.append(thing)
      refine ⟨_, rfl, rd_Entry_children T hy ⟨.inl ⟨rfl, _, SqL.of hch⟩, _, rfl, L'.ca t, _, _, rfl, rfl, hch, ?_, ?_⟩⟩
      · rw [List.length_map]
        exact line7 (by omega)
      have st4 := st3.trans (stp_child (c := p.1) st3.at_ hg)
      -- self._begin(thing, found.home, quantity)
      have O4 := st4.at_
      obtain ⟨db4, hb4⟩ := O4.bk
      have eb : L'.bk = L.bk := st.ex.bk
      have bb : (bokF (Si.mod t fun e => { e with ch := e.ch ++ [p.1] }).name L'.en L'.pa (Si.mod t fun e => { e with ch := e.ch ++ [p.1] }).cr (Si.mod t fun e => { e with ch := e.ch ++ [p.1] }).nx).lookup ("_begin" : Str) = none := ln_Book_begin _ _ _ _ _
      have g4 : (Si.mod t fun e => { e with ch := e.ch ++ [p.1] }).get t = some { e' with ch := e'.ch ++ [p.1] } := mod_same _ hg
      obtain ⟨d4, hx4⟩ := O4.ent t _ (gt_mem g4)
      rw [ea] at hx4
      rw [eb] at hb4
      have hfr : (Si.mod t fun e => { e with ch := e.ch ++ [p.1] }).get p.1 = none := by
        refine gt_none ?_
        rw [keys_md, hks]
        intro m
        rcases List.mem_append.mp m with m | m
        · exact hnew p (List.mem_of_getElem? hp) m
        · obtain ⟨z, hz1, hz2⟩ := List.mem_map.mp m
          obtain ⟨j, hj, e7⟩ := List.mem_iff_getElem.mp hz1
          rw [List.getElem_take] at e7
          rw [List.length_take] at hj
          have hjl : j < ps.length := by omega
          have q1 : (ps.map (·.1))[j]? = some p.1 := by
            rw [List.getElem?_map, List.getElem?_eq_getElem hjl, e7]
            exact congrArg some hz2
          have q2 : (ps.map (·.1))[i]? = some p.1 := by
            rw [List.getElem?_map, hp]
            rfl
          have := nd_ix hnd q1 q2
          omega
      have nt : ¬ t = p.1 := fun z => hnew p (List.mem_of_getElem? hp) (by rw [← z]; exact key_of ht)
      refine ⟨_, rfl, L.bk, db4, _, rfl, hb4, bb, _, rfl, _, rfl, rd_Entry_home T hx4 ⟨_, rfl, L', _, p.1, e'.home, p.2, by rw [eb]; rfl, O4, ?_, ?_, fun H5 L5 st5 => ?_⟩⟩
      · exact hfr
      · have q := congrArg List.length hks
        rw [keys_len, List.length_append, keys_len, List.length_map, List.length_take] at q
        rw [← keys_len, keys_md, keys_len]
        omega
      · refine ⟨L5, _, { e' with ch := e'.ch ++ [p.1] }, some (.str p.1), some (.int p.2), rfl, st4.trans st5, ?_, ?_, hh, ?_, ?_⟩
        · rw [take_snoc hp, List.foldl_append, ← hSi, hh]
          rfl
        · rw [begin_get _ _ _ hfr, if_neg nt, g4]
        · show (e'.ch ++ [p.1]).length ≤ _
          rw [List.length_append]
          show e'.ch.length + 1 ≤ _
          omega
        · show (partStep t e'.home Si p).es.map (·.1) = _
          rw [part_keys, hks, take_snoc hp, List.map_append, List.append_assoc]
          rfl
    · rintro σ H' ⟨L', Si, e', v3, v4, rfl, st, hSi, hg, hh, hcl, hks⟩
      rw [List.length_map, List.take_length] at hSi
      rw [hSi] at st
      exact k _ _ (st2.trans st)
end LH
namespace LH
open PySem PySem.Spec PyProof.Rows L2
theorem md_md {α : Type} (t : Str) (f g : α → α) (l : List (Str × α)) : md (md l t f) t g = md l t fun e => g (f e) := by
  unfold md
  rw [List.map_map]
  refine List.map_congr_left fun p _ => ?_
  by_cases z : p.1 = t
  · show (if (if p.1 = t then (p.1, f p.2) else p).1 = t then ((if p.1 = t then (p.1, f p.2) else p).1, g (if p.1 = t then (p.1, f p.2) else p).2) else (if p.1 = t then (p.1, f p.2) else p)) = if p.1 = t then (p.1, g (f p.2)) else p
    rw [if_pos z, if_pos z, if_pos z]
  · show (if (if p.1 = t then (p.1, f p.2) else p).1 = t then ((if p.1 = t then (p.1, f p.2) else p).1, g (if p.1 = t then (p.1, f p.2) else p).2) else (if p.1 = t then (p.1, f p.2) else p)) = if p.1 = t then (p.1, g (f p.2)) else p
    rw [if_neg z, if_neg z, if_neg z]
theorem mod_mod (S : OSt) (t : Str) (f g : Ent → Ent) : (S.mod t f).mod t g = S.mod t fun e => g (f e) := by
  unfold OSt.mod
  rw [md_md]
def joinF (n : Str) (e : Ent) : Ent := { e with st := .joined, ch := e.ch ++ [n] }
def OSt.jmods (S : OSt) (n : Str) (ts : List Str) : OSt := ts.foldl (fun S t => S.mod t (joinF n)) S
def OSt.qof (S : OSt) (t : Str) : Int := match S.get t with
  | some e => e.qty
  | none => 0
def OSt.join_ (S : OSt) (n : Str) (h : Option Str) (ts : List Str) : OSt := (S.jmods n ts).begin_ n h (ts.map S.qof).sum
theorem jmods_keys (n : Str) : ∀ (ts : List Str) (S : OSt), (S.jmods n ts).es.map (·.1) = S.es.map (·.1)
  | [], _ => rfl
  | t :: r, S => by
    show ((S.mod t (joinF n)).jmods n r).es.map (·.1) = _
    rw [jmods_keys n r, keys_md]
theorem cut2 (a b : V) (xs : List V) : cutV (a :: b :: xs) (some 2) none = xs := by
  unfold cutV
  have e1 : HT.sIx (a :: b :: xs).length 0 (some 2) = 2 := by
    have := HT.sIx_nat (a :: b :: xs).length 0 2
    refine this.trans (Nat.min_eq_left ?_)
    simp only [List.length_cons]
    omega
  rw [e1, HT.sIx_none]
  show xs.take _ = xs
  refine List.take_of_length_le ?_
  simp only [List.length_cons]
  omega
def spJoin (K : PySem.W.Frag) : Sp := fun vs H Q _ => ∃ (L : Lay) (S : OSt) (a : Addr) (n t0 : Str) (e0 : Ent) (ts : List Str), vs = [.ref L.bk, .ref a] ∧ OffAt K H L S ∧ H a = some (.tup (Line.joi n (t0 :: ts)).enc) ∧ S.get n = none ∧ S.get t0 = some e0 ∧
  (∀ t ∈ t0 :: ts, ∃ e, S.get t = some e ∧ e.ch.length + ts.length ≤ 1000000) ∧ S.es.length ≤ 1000000 ∧ ts.length ≤ 1000 ∧
  ∀ H' L', Stp K H L S H' L' (S.join_ n e0.home (t0 :: ts)) → Q .non H'
theorem sc_Book_join : FnScope ["self", "line", "total", "thing", "found"] ["self", "line"] (defScope sBook_join) := ⟨rfl, rfl, rfl, by decide +kernel, rfl, by decide +kernel, by decide +kernel⟩
abbrev Ok_Book_join (P : Program) (w : World) (K : PySem.W.Frag) (mg : Str → Option Value) (base : Heap) : Prop := Has P w K mg base CX0 4 (fBook_join K) ["self", "line"] (spJoin K)
theorem ok_Book_join {P : Program} {w : World} {K : PySem.W.Frag} {mg : Str → Option Value} {base : Heap} (T : Txt K mg) (h_Book_begin : Ok_Book_begin P w K mg base) : Ok_Book_join P w K mg base := by
  obtain ⟨fd, F⟩ := T.dBook_join
  obtain ⟨fd_Book_begin, G_Book_begin, b_Book_begin⟩ := h_Book_begin
  refine ⟨fd, FunD.ok (CX := CX0) F sc_Book_join (fun vs H Q E h => ?_) (fun cdv A outer s H vs Q E hr h => ?_), FunD.bindsN F fun _ _ _ _ _ _ us hl => match us, hl with | [_, _], _ => rfl⟩
  · obtain ⟨L, S, a, n, t0, e0, ts, rfl, _⟩ := h
    rfl
  · have hu := hu_of hr
    refine ⟨_, PSs.nox (pss_cons (ps_set (i := 2) sc_Book_join.nd rfl (Or.inl rfl) pe_int)
      (pss_cons (ps_for PassesOwn.never rfl (pi_tup (pe_slice sl_tup (pv 1) (po_some pe_int) po_none)) (pg_name (i := 3) sc_Book_join.nd rfl (Or.inl rfl)) (pss_cons (ps_set (i := 4) sc_Book_join.nd rfl (Or.inl rfl) (pe_dget hu (pe_fld (pv 0) rfl) (pv 3) (fun _ _ => rfl)))
      (pss_cons (ps_fld (pv 4) pe_str rfl)
      (pss_cons (ps_expr (pe_bm PySem.F.plainAttrs_list PySem.F.slot_list_append PySem.F.type_list_append mt_append (pe_fld (pv 4) rfl) (pa_cons (pe_ix ix_tup (pv 1) pe_int (fun _ _ => rfl)) pa_nil)))
      (pss_one (ps_set (i := 2) sc_Book_join.nd rfl (Or.inl rfl) (pe_op op_add (pv 2) (pe_fld (pv 4) rfl))))))))
      (pss_one (ps_expr (pe_meth (pv 0) T.cl_Book T.m_Book_begin G_Book_begin (hr.mono (by decide)) b_Book_begin .nil pass0 (pa_cons (pe_ix ix_tup (pv 1) pe_int (fun _ _ => rfl)) (pa_cons (pe_fld (pe_dget hu (pe_fld (pv 0) rfl) (pe_ix ix_tup (pv 1) pe_int (fun _ _ => rfl)) (fun _ _ => rfl)) rfl) (pa_cons (pv 2) pa_nil)))))))), ?_⟩
    obtain ⟨L, S, a, n, t0, e0, ts, rfl, O, ha, hn, h0, hts, hz, hl, k⟩ := h
    obtain ⟨db, hb⟩ := O.bk
    have enc : (Line.joi n (t0 :: ts)).enc = .str "join" :: .str n :: (t0 :: ts).map V.str := rfl
    rw [enc] at ha
    -- total = 0; for thing in line[2:]
    refine ⟨_, rfl, _, rfl, a, _, rfl, SqT.of ha, ?_, fun A hA => ?_⟩
    · intro z
      have z := z.1
      have e1 : HT.sIx (V.str "join" :: V.str n :: (t0 :: ts).map V.str).length 0 (some 2) = 2 := by
        refine (HT.sIx_nat _ 0 2).trans (Nat.min_eq_left ?_)
        simp only [List.length_cons]
        omega
      rw [e1] at z
      cases z
    rw [cut2]
    have ha2 := (upd_ne (o := HO.tup ((t0 :: ts).map V.str)) (ne_of_none ha hA)).trans ha
    have hA2 := upd_same (H := H) (a := A) (o := HO.tup ((t0 :: ts).map V.str))
    have st1 := Stp.same O (Same.upd (o := HO.tup ((t0 :: ts).map V.str)) hA)
    generalize hH1 : upd H A (HO.tup ((t0 :: ts).map V.str)) = H1 at st1 ha2 hA2 ⊢
    have O1 := st1.at_
    refine ⟨A, rfl, ⟨_, SqT.of hA2⟩, for_tup (K := K) (a := A) (xs := (t0 :: ts).map V.str)
      (fun i σ H' => ∃ (L' : Lay) (Si : OSt) (v3 v4 : Option V), σ = [some (.ref L.bk), some (.ref a), some (.int (((t0 :: ts).take i).map S.qof).sum), v3, v4] ∧ Stp K H1 L S H' L' Si ∧ Si = S.jmods n ((t0 :: ts).take i) ∧
        (∀ t e, S.get t = some e → ∃ e', Si.get t = some e' ∧ e'.home = e.home ∧ e'.qty = e.qty ∧ e'.ch.length ≤ e.ch.length + i))
      ⟨L, S, none, none, rfl, Stp.refl O1, rfl, fun t e h => ⟨e, h, rfl, rfl, Nat.le_refl _⟩⟩ ?_ ?_ ?_⟩
    · rintro i σ H' _ ⟨L', Si, v3, v4, rfl, st, _⟩
      exact SqT.of (st.fr.tup O1 hA2)
    · rintro i x σ H' hx0 ⟨L', Si, v3, v4, rfl, st, hSi, hall⟩
      obtain ⟨t, hp, rfl⟩ : ∃ t, (t0 :: ts)[i]? = some t ∧ x = V.str t := by
        rw [List.getElem?_map] at hx0
        cases e : (t0 :: ts)[i]? with
        | none =>
          rw [e] at hx0
          cases hx0
        | some p =>
          rw [e] at hx0
          exact ⟨p, rfl, (Option.some.inj hx0).symm⟩
      have hil := (List.getElem?_eq_some_iff.mp hp).1
      rw [List.length_cons] at hil
      obtain ⟨e, he, hcl⟩ := hts t (List.mem_of_getElem? hp)
      obtain ⟨e', hg, hh, hq, hc⟩ := hall t e he
      obtain ⟨d2, hb2⟩ := st.at_.bk
      rw [st.ex.bk] at hb2
      have ha3 := st.fr.tup O1 ha2
      -- found = self.entries[thing]
      refine ⟨_, rfl, rd_Book_entries T hb2 ⟨_, rfl, L'.en, _, rfl, dget_some st.at_.en hg, ?_⟩⟩
      obtain ⟨dx, hx⟩ := st.at_.ent t e' (gt_mem hg)
      refine ⟨_, rfl, L'.ea t, cEntry K, dx, _, rfl, hx, T.cl_Entry, T.n_Entry_state, (of_decide_eq_true (by kernel_rfl)), ?_⟩
      have e1 := pt_Entry_state t e' (L'.ca t) .joined
      have e2 : Stt.joined.str = ("joined" : Str) := rfl
      rw [e2] at e1
      rw [e1]
      have st3 := st.trans (stp_ent (e := e') st.at_ (f := fun e => { e with st := .joined }) hg hx rfl)
      have g3 : (Si.mod t fun e => { e with st := .joined }).get t = some { e' with st := .joined } := mod_same _ hg
      have hx3 := upd_same (H := H') (a := L'.ea t) (o := HO.ins (cEntry K) dx (entF t { e' with st := .joined } (L'.ca t)))
      have ha4 := st3.fr.tup O1 ha2
      generalize hH3 : upd H' (L'.ea t) (.ins (cEntry K) dx (entF t { e' with st := .joined } (L'.ca t))) = H3 at st3 hx3 ha4 ⊢
      have hch := st3.at_.chl t _ (gt_mem g3)
      -- found.children.append(line[1])
      refine ⟨_, rfl, rd_Entry_children T hx3 ⟨.inl ⟨rfl, _, SqL.of hch⟩, _, rfl, ixT T ha4 (.str n) (hv := atI_nat (j := 1) rfl) ⟨L'.ca t, _, _, rfl, rfl, hch, ?_, ?_⟩⟩⟩
      · rw [List.length_map]
        exact line7 (by show e'.ch.length ≤ _; omega)
      have st4 := st3.trans (stp_child (c := n) st3.at_ g3)
      have hx4 := (upd_ne (o := HO.lst (List.map V.str e'.ch ++ [.str n])) (ne_of hx3 hch (by intro z; cases z))).trans hx3
      -- total = total + found.quantity
      refine ⟨_, rfl, _, rfl, rd_Entry_quantity T hx4 ⟨_, _, rfl, rfl, ?_⟩⟩
      have em : ((Si.mod t fun e => { e with st := .joined }).mod t fun e => { e with ch := e.ch ++ [n] }) = Si.mod t (joinF n) := by
        exact mod_mod _ _ _ _
      rw [em] at st4
      refine ⟨L', Si.mod t (joinF n), some (.str t), some (.ref (L'.ea t)), ?_, st4, ?_, fun u f hf => ?_⟩
      · rw [take_snoc hp, List.map_append, List.sum_append]
        have eq : S.qof t = e'.qty := by
          unfold OSt.qof
          rw [he, hq]
        show [_, _, some (V.int ((((t0 :: ts).take i).map S.qof).sum + e'.qty)), _, _] = [_, _, some (V.int ((((t0 :: ts).take i).map S.qof).sum + ([t].map S.qof).sum)), _, _]
        simp [eq]
      · rw [take_snoc hp]
        unfold OSt.jmods at hSi ⊢
        rw [List.foldl_append, ← hSi]
        rfl
      · obtain ⟨f', q1, q2, q3, q4⟩ := hall u f hf
        by_cases z : u = t
        · subst z
          refine ⟨_, mod_same _ q1, q2, q3, ?_⟩
          show (f'.ch ++ [n]).length ≤ _
          rw [List.length_append]
          show f'.ch.length + 1 ≤ _
          omega
        · exact ⟨f', (mod_other _ z).trans q1, q2, q3, by omega⟩
    · rintro σ H' ⟨L', Si, v3, v4, rfl, st, hSi, hall⟩
      rw [List.length_map, List.take_length] at hSi ⊢
      obtain ⟨d2, hb2⟩ := st.at_.bk
      rw [st.ex.bk] at hb2
      have ha3 := st.fr.tup O1 ha2
      obtain ⟨e', hg, hh, hq, hc⟩ := hall t0 e0 h0
      obtain ⟨dx, hx⟩ := st.at_.ent t0 e' (gt_mem hg)
      have bb : (bokF Si.name L'.en L'.pa Si.cr Si.nx).lookup ("_begin" : Str) = none := ln_Book_begin _ _ _ _ _
      -- self._begin(line[1], self.entries[line[2]].home, total)
      refine ⟨_, rfl, L.bk, d2, _, rfl, hb2, bb, _, rfl, ixT T ha3 (.str n) (hv := atI_nat (j := 1) rfl) ?_⟩
      refine ⟨_, rfl, rd_Book_entries T hb2 ⟨_, rfl, ixT T ha3 (.str t0) (hv := atI_nat (j := 2) rfl) ⟨L'.en, _, rfl, dget_some st.at_.en hg, rd_Entry_home T hx ⟨_, rfl, L', Si, n, e'.home, ((t0 :: ts).map S.qof).sum, ?_, st.at_, ?_, ?_, fun H5 L5 st5 => ?_⟩⟩⟩⟩
      · rw [st.ex.bk]
        rfl
      · refine gt_none ?_
        rw [hSi, jmods_keys]
        exact none_key hn
      · rw [← keys_len, hSi, jmods_keys, keys_len]
        exact hz
      · refine k _ L5 (st1.trans (st.trans ?_))
        rw [hh] at st5
        subst hSi
        exact st5
end LH
namespace LH
open PySem PySem.Spec PyProof.Rows L2
/-! ### calling back -/
def Ent.flag (e : Ent) (b : Bool) : Ent := { e with cb := b }
def OSt.setcb (S : OSt) (c : Str → Bool) : OSt := { S with es := S.es.map fun p => (p.1, p.2.flag (c p.1)) }
theorem setcb_keys (S : OSt) (c : Str → Bool) : (S.setcb c).es.map (·.1) = S.es.map (·.1) := by
  unfold OSt.setcb
  rw [List.map_map]
  rfl
theorem gt_map {α : Type} (f : Str → α → α) (u : Str) : ∀ l : List (Str × α), gt (l.map fun p => (p.1, f p.1 p.2)) u = (gt l u).map (f u)
  | [] => rfl
  | p :: r => by
    have ih := gt_map f u r
    rw [List.map_cons]
    by_cases z : p.1 = u
    · rw [gt_pos (p := (p.1, f p.1 p.2)) z, gt_pos z, z]
      rfl
    · rw [gt_neg (p := (p.1, f p.1 p.2)) z, gt_neg z, ih]
theorem setcb_get (S : OSt) (c : Str → Bool) (u : Str) : (S.setcb c).get u = (S.get u).map fun e => e.flag (c u) := gt_map (fun u (e : Ent) => e.flag (c u)) u S.es
theorem setcb_mod {S : OSt} {c : Str → Bool} {t : Str} {e : Ent} (h : S.get t = some e) : ((S.setcb c).mod t fun e => e.flag true) = S.setcb fun u => if u = t then true else c u := by
  unfold OSt.setcb OSt.mod md
  congr 1
  rw [List.map_map]
  refine List.map_congr_left fun p _ => ?_
  show (if p.1 = t then (p.1, (p.2.flag (c p.1)).flag true) else (p.1, p.2.flag (c p.1))) = (p.1, p.2.flag (if p.1 = t then true else c p.1))
  by_cases z : p.1 = t
  · rw [if_pos z, if_pos z]
    rfl
  · rw [if_neg z, if_neg z]
/-- no entry is changed by the flags that stand -/
theorem setcb_self (S : OSt) (nd : (S.es.map (·.1)).Nodup) : S.setcb (fun u => (S.get u).elim false Ent.cb) = S := by
  unfold OSt.setcb
  have : (S.es.map fun p => (p.1, p.2.flag ((S.get p.1).elim false Ent.cb))) = S.es := by
    have q : (S.es.map fun p => (p.1, p.2.flag ((S.get p.1).elim false Ent.cb))) = S.es.map id := List.map_congr_left fun p hp => by
      have g : S.get p.1 = some p.2 := mem_gt nd hp
      rw [g]
      rfl
    rw [q, List.map_id]
  rw [this]
/-- how many children wait with the entries that are not called back -/
def chs (c : Str → Bool) : List (Str × Ent) → Nat
  | [] => 0
  | p :: r => (if c p.1 then 0 else p.2.ch.length) + chs c r
theorem chs_mark {c : Str → Bool} {t : Str} {e : Ent} : ∀ {l : List (Str × Ent)}, (l.map (·.1)).Nodup → gt l t = some e → c t = false → chs (fun u => if u = t then true else c u) l + e.ch.length = chs c l
  | [], _, h, _ => by cases h
  | p :: r, nd, h, hc => by
    rw [List.map_cons, List.nodup_cons] at nd
    by_cases z : p.1 = t
    · rw [gt_pos z] at h
      injection h with h
      have same : ∀ l : List (Str × Ent), ¬ t ∈ l.map (·.1) → chs (fun u => if u = t then true else c u) l = chs c l := fun l => by
        induction l with
        | nil => intro _; rfl
        | cons q l ih =>
          intro m
          rw [List.map_cons, List.mem_cons] at m
          show (if (if q.1 = t then true else c q.1) then 0 else q.2.ch.length) + _ = (if c q.1 then 0 else q.2.ch.length) + _
          rw [ih fun w => m (.inr w), if_neg (show ¬ q.1 = t from fun w => m (.inl w.symm))]
      show (if (if p.1 = t then true else c p.1) then 0 else p.2.ch.length) + chs _ r + e.ch.length = (if c p.1 then 0 else p.2.ch.length) + chs c r
      rw [same r (by rw [← z]; exact nd.1), if_pos z, z, hc, h]
      simp
      omega
    · rw [gt_neg z] at h
      have ih := chs_mark nd.2 h hc
      show (if (if p.1 = t then true else c p.1) then 0 else p.2.ch.length) + chs _ r + e.ch.length = (if c p.1 then 0 else p.2.ch.length) + chs c r
      rw [if_neg z]
      omega
theorem chs_le (c : Str → Bool) : ∀ l : List (Str × Ent), chs c l ≤ chs (fun _ => false) l
  | [] => Nat.le_refl _
  | p :: r => by
    have ih := chs_le c r
    show (if c p.1 then 0 else p.2.ch.length) + chs c r ≤ (if false = true then 0 else p.2.ch.length) + chs _ r
    cases c p.1 <;> simp <;> omega
def kidsIn (S : OSt) : Prop := ∀ t e, S.get t = some e → ∀ x ∈ e.ch, x ∈ S.es.map (·.1)
theorem nil_or_snoc {α : Type} (l : List α) : l = [] ∨ ∃ l' x, l = l' ++ [x] := by
  rcases List.eq_nil_or_concat l with h | ⟨l', x, h⟩
  · exact .inl h
  · exact .inr ⟨l', x, by rw [h, List.concat_eq_append]⟩
theorem know_kids {S : OSt} {t : Str} (h : kidsIn S) : kidsIn (S.know t) := by
  cases ht : S.get t with
  | some e =>
    rw [know_some ht]
    exact h
  | none =>
    rw [know_none ht]
    intro u e hu x hx
    rw [add_get _ _ ht] at hu
    by_cases z : u = t
    · rw [if_pos z] at hu
      injection hu with hu
      rw [← hu] at hx
      cases hx
    · rw [if_neg z] at hu
      rw [add_keys]
      exact List.mem_append_left _ (h u e hu x hx)
theorem chs_app (c : Str → Bool) : ∀ a b : List (Str × Ent), chs c (a ++ b) = chs c a + chs c b
  | [], b => (Nat.zero_add _).symm
  | p :: r, b => by
    have ih := chs_app c r b
    show (if c p.1 then 0 else p.2.ch.length) + chs c (r ++ b) = (if c p.1 then 0 else p.2.ch.length) + chs c r + chs c b
    omega
theorem know_chs {S : OSt} {t : Str} : chs (fun _ => false) (S.know t).es = chs (fun _ => false) S.es := by
  cases ht : S.get t with
  | some e => rw [know_some ht]
  | none =>
    rw [know_none ht]
    show chs _ (S.es ++ [(t, Ent.new)]) = _
    rw [chs_app]
    rfl
def spMark (K : PySem.W.Frag) : Sp := fun vs H Q _ => ∃ (L : Lay) (S : OSt) (t : Str), vs = [.ref L.bk, .str t] ∧ OffAt K H L S ∧ kidsIn S ∧ S.es.length ≤ 1000000 ∧ chs (fun _ => false) S.es ≤ 1000000 ∧
  ∀ c H' L', (∀ u e, (S.know t).get u = some e → e.cb = true → c u = true) → c t = true → Stp K H L S H' L' ((S.know t).setcb c) → Q .non H'
theorem sc_Book_mark : FnScope ["self", "thing", "waiting", "found"] ["self", "thing"] (defScope sBook_mark) := ⟨rfl, rfl, rfl, by decide +kernel, rfl, by decide +kernel, by decide +kernel⟩
abbrev Ok_Book_mark (P : Program) (w : World) (K : PySem.W.Frag) (mg : Str → Option Value) (base : Heap) : Prop := Has P w K mg base CX0 3 (fBook_mark K) ["self", "thing"] (spMark K)
theorem ok_Book_mark {P : Program} {w : World} {K : PySem.W.Frag} {mg : Str → Option Value} {base : Heap} (T : Txt K mg) (h_Entry_init : Ok_Entry_init P w K mg base) : Ok_Book_mark P w K mg base := by
  obtain ⟨fd, F⟩ := T.dBook_mark
  obtain ⟨fd_Entry_init, G_Entry_init, b_Entry_init⟩ := h_Entry_init
  refine ⟨fd, FunD.ok (CX := CX0) F sc_Book_mark (fun vs H Q E h => ?_) (fun cdv A outer s H vs Q E hr h => ?_), FunD.bindsN F fun _ _ _ _ _ _ us hl => match us, hl with | [_, _], _ => rfl⟩
  · obtain ⟨L, S, t, rfl, _⟩ := h
    rfl
  · have hu := hu_of hr
    refine ⟨_, PSs.nox (pss_cons (ps_if (pt_cmp (pc_dnotin hu (pv 1) (pe_fld (pv 0) rfl))) (pss_one (ps_dput hu (pe_fld (pv 0) rfl) (pv 1) (pe_make T.mk_Entry G_Entry_init (hr.mono (by decide)) rfl T.g_Entry b_Entry_init .nil pass0 (pa_cons (pv 1) pa_nil)) rfl)) pss_nil)
      (pss_cons (ps_set (i := 2) sc_Book_mark.nd rfl (Or.inl rfl) (pe_lst (pa_cons (pv 1) pa_nil)))
      (pss_one (ps_while PassesOwn.never (pt_truth (pv 2) (by intro _; rfl)) (pss_cons (ps_set (i := 3) sc_Book_mark.nd rfl (Or.inl rfl) (pe_dget hu (pe_fld (pv 0) rfl) (pe_bm0 PySem.F.plainAttrs_list PySem.F.slot_list_pop PySem.F.type_list_pop mt_pop (pv 2)) (fun _ _ => rfl)))
      (pss_one (ps_if (pt_not (pt_val (pe_fld (pv 3) rfl))) (pss_cons (ps_fld (pv 3) pe_bl rfl)
      (pss_one (ps_expr (pe_bm PySem.F.plainAttrs_list PySem.F.slot_list_extend PySem.F.type_list_extend mt_extend (pv 2) (pa_cons (pe_fld (pv 3) rfl) pa_nil))))) pss_nil))))))), ?_⟩
    obtain ⟨L, S, t, rfl, O, hki, hz, hcs, k⟩ := h
    obtain ⟨db, hb⟩ := O.bk
    refine ⟨_, rfl, _, rfl, rd_Book_entries T hb ⟨L.en, _, rfl, DGet.k (k := Sum.inr t) O.en, _, rfl, ?_⟩⟩
    cases ht : S.get t with
    | some e =>
      rw [valV_some ht]
      refine iteF ?_
      obtain ⟨L2, hL2⟩ : ∃ L2, L2 = L := ⟨_, rfl⟩
      have st : Stp K H L S H L2 (S.know t) := by
        rw [know_some ht, hL2]
        exact Stp.refl O
      have S1k : kidsIn (S.know t) := know_kids hki
      have S1c : chs (fun _ => false) (S.know t).es ≤ 1000000 := by rw [know_chs]; exact hcs
      have hkt : t ∈ (S.know t).es.map (·.1) := by
        obtain ⟨e, he⟩ := know_get S t
        exact key_of he
      refine ⟨_, rfl, line16 (by show 1 ≤ 16000000; decide), fun W hW => ?_⟩
      have hW0 : H W = none := st.fr.old hW
      have nf : ¬ Foot L2 (S.know t) W := st.at_.nofoot hW
      have st3 := st.more hW (o := HO.lst [V.str t])
      have nd1 := st3.at_.nd
      generalize hS1 : S.know t = S1 at st3 S1k S1c hkt nf nd1 k ⊢
      refine ⟨fun m σ H' => ∃ (c : Str → Bool) (L' : Lay) (ws : List Str) (v3 : Option V), σ = [some (.ref L.bk), some (.str t), some (.ref W), v3] ∧ Stp K H L S H' L' (S1.setcb c) ∧ (∀ u e, S1.get u = some e → e.cb = true → c u = true) ∧ (c t = true ∨ t ∈ ws) ∧
        H' W = some (.lst (ws.map V.str)) ∧ ¬ Foot L' (S1.setcb c) W ∧ (∀ x ∈ ws, x ∈ S1.es.map (·.1)) ∧ m = ws.length + chs c S1.es ∧ m ≤ 1000001, ⟨1 + chs (fun u => (S1.get u).elim false Ent.cb) S1.es, _, L2, [t], none, rfl, ?_, ?_, .inr (List.mem_singleton.mpr rfl), upd_same, ?_, ?_, rfl, ?_⟩, ?_⟩
      · rw [setcb_self S1 nd1]
        exact st3
      · intro u e hu he
        rw [hu]
        exact he
      · rw [setcb_self S1 nd1]
        exact nf
      · intro x hx
        rw [List.mem_singleton.mp hx]
        exact hkt
      · have q := chs_le (fun u => (S1.get u).elim false Ent.cb) S1.es
        omega
      rintro m σ H' ⟨c, L', ws, v3, rfl, st4, hmono, hct, hWs, nf4, hws, hm, hml⟩
      refine ⟨_, rfl, _, .inl ⟨_, SqL.of hWs, rfl⟩, ?_⟩
      rcases nil_or_snoc ws with rfl | ⟨ws', x, rfl⟩
      · refine iteF ?_
        refine k c H' L' hmono (hct.resolve_right fun z => by cases z) st4
      · have ne : (!(List.map V.str (ws' ++ [x])).isEmpty) = true := by
          rw [List.map_append]
          cases ws'.map V.str <;> rfl
        refine ifT ne ⟨_, fun σ' H' z => z, ?_⟩
        obtain ⟨d4, hb4⟩ := st4.at_.bk
        rw [st4.ex.bk] at hb4
        have hxk : x ∈ S1.es.map (·.1) := hws x (List.mem_append_right _ (List.mem_singleton.mpr rfl))
        obtain ⟨e, he⟩ := gt_key hxk
        have he : S1.get x = some e := he
        have hg : (S1.setcb c).get x = some (e.flag (c x)) := by
          rw [setcb_get, he]
          rfl
        have e1 : (List.map V.str (ws' ++ [x]))[(List.map V.str (ws' ++ [x])).length - 1]? = some (V.str x) := by
          rw [List.map_append]
          simp
        have e2 : (List.map V.str (ws' ++ [x])).dropLast = ws'.map V.str := by
          rw [List.map_append]
          simp
        refine ⟨_, rfl, rd_Book_entries T hb4 ⟨_, rfl, .inl ⟨rfl, _, SqL.of hWs⟩, W, _, _, rfl, rfl, hWs, e1, ?_⟩⟩
        rw [e2]
        have st5 := st4.own (o := .lst (ws'.map V.str)) hW0 nf4 hWs
        have hW5 := upd_same (H := H') (a := W) (o := HO.lst (ws'.map V.str))
        generalize hH5 : upd H' W (.lst (ws'.map V.str)) = H5 at st5 hW5 ⊢
        refine ⟨L'.en, _, rfl, dget_some st5.at_.en hg, ?_⟩
        obtain ⟨dx, hx⟩ := st5.at_.ent x _ (gt_mem hg)
        refine ⟨_, rfl, rd_Entry_is_recalled T hx ⟨_, rfl, ?_⟩⟩
        have hws' : ∀ y ∈ ws', y ∈ S1.es.map (·.1) := fun y hy => hws y (List.mem_append_left _ hy)
        have hlen : (ws' ++ [x]).length = ws'.length + 1 := by rw [List.length_append]; rfl
        rw [hlen] at hm
        cases hc : c x with
        | true =>
          refine ifF rfl ⟨ws'.length + chs c S1.es, by omega, c, L', ws', _, rfl, st5, hmono, ?_, hW5, nf4, hws', rfl, by omega⟩
          rcases hct with q | q
          · exact .inl q
          · rcases List.mem_append.mp q with q | q
            · exact .inr q
            · rw [List.mem_singleton.mp q]
              exact .inl hc
        | false =>
          refine ifT rfl ?_
          refine ⟨_, rfl, L'.ea x, cEntry K, dx, _, rfl, hx, T.cl_Entry, T.n_Entry_is_recalled, (of_decide_eq_true (by kernel_rfl)), ?_⟩
          rw [pt_Entry_is_recalled]
          have st6 := st5.trans (stp_ent (e := e.flag (c x)) st5.at_ (f := fun e => e.flag true) hg hx rfl)
          have hW6 := (upd_ne (o := HO.ins (cEntry K) dx (entF x ((e.flag (c x)).flag true) (L'.ca x))) (ne_of hW5 hx (by intro z; cases z))).trans hW5
          have hx6 := upd_same (H := H5) (a := L'.ea x) (o := HO.ins (cEntry K) dx (entF x ((e.flag (c x)).flag true) (L'.ca x)))
          rw [setcb_mod he] at st6
          have chm := chs_mark (c := c) nd1 he hc
          have fe : { e.flag (c x) with cb := true } = (e.flag (c x)).flag true := rfl
          rw [fe]
          generalize hH6 : upd H5 (L'.ea x) (.ins (cEntry K) dx (entF x ((e.flag (c x)).flag true) (L'.ca x))) = H6 at st6 hW6 hx6 ⊢
          have g6 : (S1.setcb fun u => if u = x then true else c u).get x = some (e.flag true) := by
            rw [setcb_get, he]
            show some (e.flag (if x = x then true else c x)) = _
            rw [if_pos rfl]
          have hch := st6.at_.chl x _ (gt_mem g6)
          have nf6 : ¬ Foot L' (S1.setcb fun u => if u = x then true else c u) W := fun f => nf4 (by
            unfold Foot at f ⊢
            rw [setcb_keys] at f ⊢
            exact f)
          refine ⟨_, rfl, .inl ⟨rfl, _, SqL.of hW6⟩, _, rfl, rd_Entry_children T hx6 ⟨W, L'.ca x, _, _, rfl, rfl, hW6, hch, ?_, ?_⟩⟩
          · rw [List.length_map, List.length_map]
            refine line16 ?_
            show ws'.length + e.ch.length ≤ _
            omega
          · have st7 := st6.own (o := .lst (ws'.map V.str ++ (e.flag true).ch.map V.str)) hW0 nf6 hW6
            refine ⟨(ws' ++ e.ch).length + chs (fun u => if u = x then true else c u) S1.es, ?_, _, L', ws' ++ e.ch, _, rfl, st7, ?_, ?_, ?_, nf6, ?_, rfl, ?_⟩
            · rw [List.length_append]
              omega
            · intro u f hu hf
              show (if u = x then true else c u) = true
              by_cases z : u = x
              · rw [if_pos z]
              · rw [if_neg z]
                exact hmono u f hu hf
            · by_cases z : t = x
              · exact .inl (if_pos z)
              · refine (hct.imp (fun q => ?_) fun q => ?_)
                · show (if t = x then true else c t) = true
                  rw [if_neg z]
                  exact q
                · rcases List.mem_append.mp q with q | q
                  · exact List.mem_append_left _ q
                  · exact absurd (List.mem_singleton.mp q) z
            · rw [upd_same, List.map_append]
              rfl
            · intro y hy
              rcases List.mem_append.mp hy with q | q
              · exact hws' y q
              · exact S1k x e he y q
            · rw [List.length_append]
              omega
    | none =>
      rw [valV_none ht]
      refine iteT ?_
      refine ⟨_, rfl, (fun p dx hp hdx ne => ⟨p, dx, t, rfl, upd_same, fun c H1 hc ncp h1 h2 hk => ?_⟩)⟩
      obtain ⟨s1, st⟩ := stp_new O ht hp hdx hc ncp h1 h2 hk
      have O1 := O.same s1
      refine ⟨rfl, _, rfl, rd_Book_entries T (s1 _ _ hb) ⟨_, rfl, L.en, _, rfl, DPut.k (k := Sum.inr t) O1.en (by rw [entKV_len]; exact line7 (by omega)), ?_⟩⟩
      rw [← know_none ht] at st
      obtain ⟨L2, hL2⟩ : ∃ L2, L2 = L.add t p c := ⟨_, rfl⟩
      rw [← hL2] at st
      have S1k : kidsIn (S.know t) := know_kids hki
      have S1c : chs (fun _ => false) (S.know t).es ≤ 1000000 := by rw [know_chs]; exact hcs
      have hkt : t ∈ (S.know t).es.map (·.1) := by
        obtain ⟨e, he⟩ := know_get S t
        exact key_of he
      refine ⟨_, rfl, line16 (by show 1 ≤ 16000000; decide), fun W hW => ?_⟩
      have hW0 : H W = none := st.fr.old hW
      have nf : ¬ Foot L2 (S.know t) W := st.at_.nofoot hW
      have st3 := st.more hW (o := HO.lst [V.str t])
      have nd1 := st3.at_.nd
      generalize hS1 : S.know t = S1 at st3 S1k S1c hkt nf nd1 k ⊢
      refine ⟨fun m σ H' => ∃ (c : Str → Bool) (L' : Lay) (ws : List Str) (v3 : Option V), σ = [some (.ref L.bk), some (.str t), some (.ref W), v3] ∧ Stp K H L S H' L' (S1.setcb c) ∧ (∀ u e, S1.get u = some e → e.cb = true → c u = true) ∧ (c t = true ∨ t ∈ ws) ∧
        H' W = some (.lst (ws.map V.str)) ∧ ¬ Foot L' (S1.setcb c) W ∧ (∀ x ∈ ws, x ∈ S1.es.map (·.1)) ∧ m = ws.length + chs c S1.es ∧ m ≤ 1000001, ⟨1 + chs (fun u => (S1.get u).elim false Ent.cb) S1.es, _, L2, [t], none, rfl, ?_, ?_, .inr (List.mem_singleton.mpr rfl), upd_same, ?_, ?_, rfl, ?_⟩, ?_⟩
      · rw [setcb_self S1 nd1]
        exact st3
      · intro u e hu he
        rw [hu]
        exact he
      · rw [setcb_self S1 nd1]
        exact nf
      · intro x hx
        rw [List.mem_singleton.mp hx]
        exact hkt
      · have q := chs_le (fun u => (S1.get u).elim false Ent.cb) S1.es
        omega
      rintro m σ H' ⟨c, L', ws, v3, rfl, st4, hmono, hct, hWs, nf4, hws, hm, hml⟩
      refine ⟨_, rfl, _, .inl ⟨_, SqL.of hWs, rfl⟩, ?_⟩
      rcases nil_or_snoc ws with rfl | ⟨ws', x, rfl⟩
      · refine iteF ?_
        refine k c H' L' hmono (hct.resolve_right fun z => by cases z) st4
      · have ne : (!(List.map V.str (ws' ++ [x])).isEmpty) = true := by
          rw [List.map_append]
          cases ws'.map V.str <;> rfl
        refine ifT ne ⟨_, fun σ' H' z => z, ?_⟩
        obtain ⟨d4, hb4⟩ := st4.at_.bk
        rw [st4.ex.bk] at hb4
        have hxk : x ∈ S1.es.map (·.1) := hws x (List.mem_append_right _ (List.mem_singleton.mpr rfl))
        obtain ⟨e, he⟩ := gt_key hxk
        have he : S1.get x = some e := he
        have hg : (S1.setcb c).get x = some (e.flag (c x)) := by
          rw [setcb_get, he]
          rfl
        have e1 : (List.map V.str (ws' ++ [x]))[(List.map V.str (ws' ++ [x])).length - 1]? = some (V.str x) := by
          rw [List.map_append]
          simp
        have e2 : (List.map V.str (ws' ++ [x])).dropLast = ws'.map V.str := by
          rw [List.map_append]
          simp
        refine ⟨_, rfl, rd_Book_entries T hb4 ⟨_, rfl, .inl ⟨rfl, _, SqL.of hWs⟩, W, _, _, rfl, rfl, hWs, e1, ?_⟩⟩
        rw [e2]
        have st5 := st4.own (o := .lst (ws'.map V.str)) hW0 nf4 hWs
        have hW5 := upd_same (H := H') (a := W) (o := HO.lst (ws'.map V.str))
        generalize hH5 : upd H' W (.lst (ws'.map V.str)) = H5 at st5 hW5 ⊢
        refine ⟨L'.en, _, rfl, dget_some st5.at_.en hg, ?_⟩
        obtain ⟨dx, hx⟩ := st5.at_.ent x _ (gt_mem hg)
        refine ⟨_, rfl, rd_Entry_is_recalled T hx ⟨_, rfl, ?_⟩⟩
        have hws' : ∀ y ∈ ws', y ∈ S1.es.map (·.1) := fun y hy => hws y (List.mem_append_left _ hy)
        have hlen : (ws' ++ [x]).length = ws'.length + 1 := by rw [List.length_append]; rfl
        rw [hlen] at hm
        cases hc : c x with
        | true =>
          refine ifF rfl ⟨ws'.length + chs c S1.es, by omega, c, L', ws', _, rfl, st5, hmono, ?_, hW5, nf4, hws', rfl, by omega⟩
          rcases hct with q | q
          · exact .inl q
          · rcases List.mem_append.mp q with q | q
            · exact .inr q
            · rw [List.mem_singleton.mp q]
              exact .inl hc
        | false =>
          refine ifT rfl ?_
          refine ⟨_, rfl, L'.ea x, cEntry K, dx, _, rfl, hx, T.cl_Entry, T.n_Entry_is_recalled, (of_decide_eq_true (by kernel_rfl)), ?_⟩
          rw [pt_Entry_is_recalled]
          have st6 := st5.trans (stp_ent (e := e.flag (c x)) st5.at_ (f := fun e => e.flag true) hg hx rfl)
          have hW6 := (upd_ne (o := HO.ins (cEntry K) dx (entF x ((e.flag (c x)).flag true) (L'.ca x))) (ne_of hW5 hx (by intro z; cases z))).trans hW5
          have hx6 := upd_same (H := H5) (a := L'.ea x) (o := HO.ins (cEntry K) dx (entF x ((e.flag (c x)).flag true) (L'.ca x)))
          rw [setcb_mod he] at st6
          have chm := chs_mark (c := c) nd1 he hc
          have fe : { e.flag (c x) with cb := true } = (e.flag (c x)).flag true := rfl
          rw [fe]
          generalize hH6 : upd H5 (L'.ea x) (.ins (cEntry K) dx (entF x ((e.flag (c x)).flag true) (L'.ca x))) = H6 at st6 hW6 hx6 ⊢
          have g6 : (S1.setcb fun u => if u = x then true else c u).get x = some (e.flag true) := by
            rw [setcb_get, he]
            show some (e.flag (if x = x then true else c x)) = _
            rw [if_pos rfl]
          have hch := st6.at_.chl x _ (gt_mem g6)
          have nf6 : ¬ Foot L' (S1.setcb fun u => if u = x then true else c u) W := fun f => nf4 (by
            unfold Foot at f ⊢
            rw [setcb_keys] at f ⊢
            exact f)
          refine ⟨_, rfl, .inl ⟨rfl, _, SqL.of hW6⟩, _, rfl, rd_Entry_children T hx6 ⟨W, L'.ca x, _, _, rfl, rfl, hW6, hch, ?_, ?_⟩⟩
          · rw [List.length_map, List.length_map]
            refine line16 ?_
            show ws'.length + e.ch.length ≤ _
            omega
          · have st7 := st6.own (o := .lst (ws'.map V.str ++ (e.flag true).ch.map V.str)) hW0 nf6 hW6
            refine ⟨(ws' ++ e.ch).length + chs (fun u => if u = x then true else c u) S1.es, ?_, _, L', ws' ++ e.ch, _, rfl, st7, ?_, ?_, ?_, nf6, ?_, rfl, ?_⟩
            · rw [List.length_append]
              omega
            · intro u f hu hf
              show (if u = x then true else c u) = true
              by_cases z : u = x
              · rw [if_pos z]
              · rw [if_neg z]
                exact hmono u f hu hf
            · by_cases z : t = x
              · exact .inl (if_pos z)
              · refine (hct.imp (fun q => ?_) fun q => ?_)
                · show (if t = x then true else c t) = true
                  rw [if_neg z]
                  exact q
                · rcases List.mem_append.mp q with q | q
                  · exact List.mem_append_left _ q
                  · exact absurd (List.mem_singleton.mp q) z
            · rw [upd_same, List.map_append]
              rfl
            · intro y hy
              rcases List.mem_append.mp hy with q | q
              · exact hws' y q
              · exact S1k x e he y q
            · rw [List.length_append]
              omega
end LH
namespace LH
open PySem PySem.Spec PyProof.Rows L2
def rdF (e : Ent) : Ent := { e with rd := true }
def ntF (e : Ent) : Ent := { e with nt := true }
def pdF (e : Ent) : Ent := { e with pd := true }
def OSt.ans_ (S : OSt) : Line → OSt
  | .rcp t _ => S.mod t rdF
  | .ntd t _ => S.mod t ntF
  | .pay t o q => { S with ps := S.ps ++ [(t, o, q)] }
  | .pad t q => { S.mod t pdF with cr := S.cr + q }
  | _ => S
def ansFit (S : OSt) : Line → Prop
  | .rcp t _ | .ntd t _ | .pad t _ => ∃ e, S.get t = some e
  | .pay t _ _ => gt S.ps t = none ∧ S.ps.length ≤ 1000000
  | _ => False
def spAnswer (K : PySem.W.Frag) : Sp := fun vs H Q _ => ∃ (L : Lay) (S : OSt) (a : Addr) (ln : Line), vs = [.ref L.bk, .ref a] ∧ OffAt K H L S ∧ H a = some (.tup ln.enc) ∧ ansFit S ln ∧ ∀ H' L', Stp K H L S H' L' (S.ans_ ln) → Q .non H'
theorem sc_Book_answer : FnScope ["self", "line", "word"] ["self", "line"] (defScope sBook_answer) := ⟨rfl, rfl, rfl, by decide +kernel, rfl, by decide +kernel, by decide +kernel⟩
abbrev Ok_Book_answer (P : Program) (w : World) (K : PySem.W.Frag) (mg : Str → Option Value) (base : Heap) : Prop := Has P w K mg base CX0 1 (fBook_answer K) ["self", "line"] (spAnswer K)
theorem ok_Book_answer {P : Program} {w : World} {K : PySem.W.Frag} {mg : Str → Option Value} {base : Heap} (T : Txt K mg) : Ok_Book_answer P w K mg base := by
  obtain ⟨fd, F⟩ := T.dBook_answer
  refine ⟨fd, FunD.ok (CX := CX0) F sc_Book_answer (fun vs H Q E h => ?_) (fun cdv A outer s H vs Q E hr h => ?_), FunD.bindsN F fun _ _ _ _ _ _ us hl => match us, hl with | [_, _], _ => rfl⟩
  · obtain ⟨L, S, a, ln, rfl, _⟩ := h
    rfl
  · have hu := hu_of hr
    refine ⟨_, PSs.nox (pss_cons (ps_set (i := 2) sc_Book_answer.nd rfl (Or.inl rfl) (pe_ix ix_tup (pv 1) pe_int (fun _ _ => rfl)))
      (pss_one (ps_if (pt_cmpR op_eq (pv 2) pe_str (nomark _)) (pss_one (ps_fld (pe_dget hu (pe_fld (pv 0) rfl) (pe_ix ix_tup (pv 1) pe_int (fun _ _ => rfl)) (fun _ _ => rfl)) pe_bl rfl)) (pss_one (ps_if (pt_cmpR op_eq (pv 2) pe_str (nomark _)) (pss_one (ps_fld (pe_dget hu (pe_fld (pv 0) rfl) (pe_ix ix_tup (pv 1) pe_int (fun _ _ => rfl)) (fun _ _ => rfl)) pe_bl rfl)) (pss_one (ps_if (pt_cmpR op_eq (pv 2) pe_str (nomark _)) (pss_one (ps_dput hu (pe_fld (pv 0) rfl) (pe_ix ix_tup (pv 1) pe_int (fun _ _ => rfl)) (pe_tup (pa_cons (pe_ix ix_tup (pv 1) pe_int (fun _ _ => rfl)) (pa_cons (pe_ix ix_tup (pv 1) pe_int (fun _ _ => rfl)) pa_nil))) rfl)) (pss_cons (ps_fld (pe_dget hu (pe_fld (pv 0) rfl) (pe_ix ix_tup (pv 1) pe_int (fun _ _ => rfl)) (fun _ _ => rfl)) pe_bl rfl)
      (pss_one (ps_fld (pv 0) (pe_op op_add (pe_fld (pv 0) rfl) (pe_ix ix_tup (pv 1) pe_int (fun _ _ => rfl))) rfl)))))))))), ?_⟩
    obtain ⟨L, S, a, ln, rfl, O, ha, hf, k⟩ := h
    obtain ⟨db, hb⟩ := O.bk
    cases ln with
    | rcp t n =>
      obtain ⟨e, ht⟩ := hf
      obtain ⟨dx, hx⟩ := O.ent t e (gt_mem ht)
      refine ⟨_, rfl, ixT T ha (.str "receipt") ?_⟩
      
      refine ⟨_, rfl, rfl, _, rfl, ifT (by decide +kernel) ?_⟩
      refine ⟨_, rfl, rd_Book_entries T hb ⟨_, rfl, ixT T ha (.str t) ⟨L.en, _, rfl, dget_some O.en ht, ?_⟩⟩⟩
      refine ⟨L.ea t, cEntry K, dx, _, rfl, hx, T.cl_Entry, T.n_Entry_is_received, (of_decide_eq_true (by kernel_rfl)), ?_⟩
      rw [pt_Entry_is_received]
      exact k _ L (stp_ent (e := e) O (f := rdF) ht hx rfl)
    | ntd t o =>
      obtain ⟨e, ht⟩ := hf
      obtain ⟨dx, hx⟩ := O.ent t e (gt_mem ht)
      refine ⟨_, rfl, ixT T ha (.str "noted") ?_⟩
      refine ⟨_, rfl, rfl, _, rfl, ifF (by decide +kernel) ?_⟩
      refine ⟨_, rfl, rfl, _, rfl, ifT (by decide +kernel) ?_⟩
      refine ⟨_, rfl, rd_Book_entries T hb ⟨_, rfl, ixT T ha (.str t) ⟨L.en, _, rfl, dget_some O.en ht, ?_⟩⟩⟩
      refine ⟨L.ea t, cEntry K, dx, _, rfl, hx, T.cl_Entry, T.n_Entry_is_noted, (of_decide_eq_true (by kernel_rfl)), ?_⟩
      rw [pt_Entry_is_noted]
      exact k _ L (stp_ent (e := e) O (f := ntF) ht hx rfl)
    | pay t o q =>
      obtain ⟨ht, hz⟩ := hf
      obtain ⟨pt, hp, hpt⟩ := O.pa
      refine ⟨_, rfl, ixT T ha (.str "pay") ?_⟩
      refine ⟨_, rfl, rfl, _, rfl, ifF (by decide +kernel) ?_⟩
      refine ⟨_, rfl, rfl, _, rfl, ifF (by decide +kernel) ?_⟩
      refine ⟨_, rfl, rfl, _, rfl, ifT (by decide +kernel) ?_⟩
      refine ⟨_, rfl, ixT T ha (.str o) ⟨_, rfl, ixT T ha (.int q) ⟨line16 (by show 2 ≤ 16000000; decide), fun p hpn => ?_⟩⟩⟩
      have s1 := Same.upd (o := HO.tup [V.str o, V.int q]) hpn
      have O1 := O.same s1
      refine ⟨_, rfl, rd_Book_payments T (s1 _ _ hb) ⟨_, rfl, ixT T (s1 _ _ ha) (.str t) ⟨L.pa, _, rfl, DPut.k (k := Sum.inr t) (s1 _ _ hp) (by unfold payKV; rw [List.length_map]; exact line7 (by omega)), ?_⟩⟩⟩
      exact k _ L ((Stp.same O s1).trans (stp_pay O1 upd_same (s1 _ _ hp) (fun z hz => s1 _ _ (hpt z hz)) ht))
    | pad t q =>
      obtain ⟨e, ht⟩ := hf
      obtain ⟨dx, hx⟩ := O.ent t e (gt_mem ht)
      refine ⟨_, rfl, ixT T ha (.str "paid") ?_⟩
      refine ⟨_, rfl, rfl, _, rfl, ifF (by decide +kernel) ?_⟩
      refine ⟨_, rfl, rfl, _, rfl, ifF (by decide +kernel) ?_⟩
      refine ⟨_, rfl, rfl, _, rfl, ifF (by decide +kernel) ?_⟩
      refine ⟨_, rfl, rd_Book_entries T hb ⟨_, rfl, ixT T ha (.str t) ⟨L.en, _, rfl, dget_some O.en ht, ?_⟩⟩⟩
      refine ⟨L.ea t, cEntry K, dx, _, rfl, hx, T.cl_Entry, T.n_Entry_is_paid, (of_decide_eq_true (by kernel_rfl)), ?_⟩
      rw [pt_Entry_is_paid]
      have st1 := stp_ent (e := e) O (f := pdF) ht hx rfl
      have fe : { e with pd := true } = pdF e := rfl
      rw [fe]
      have ha1 := st1.fr.tup O ha
      generalize hH1 : upd H (L.ea t) (.ins (cEntry K) dx (entF t (pdF e) (L.ca t))) = H1 at st1 ha1 ⊢
      obtain ⟨d1, hb1⟩ := st1.at_.bk
      refine ⟨_, rfl, rd_Book_credit T hb1 ⟨_, rfl, ixT T ha1 (.int q) ⟨_, _, rfl, rfl, _, rfl, L.bk, cBook K, d1, _, rfl, hb1, T.cl_Book, T.n_Book_credit, (of_decide_eq_true (by kernel_rfl)), ?_⟩⟩⟩
      rw [pt_Book_credit]
      exact k _ L (st1.trans (stp_book st1.at_ (S.cr + q) S.nx hb1))
    | _ => exact False.elim hf
/-- what a line does -/
def App (S : OSt) (ln : Line) (S' : OSt) : Prop :=
  match ln with
  | .reg t q => S' = S.begin_ t (some S.name) q
  | .give t n r => S' = S.give_ t n r
  | .got t h q n _ => S' = S.got_ t h q n
  | .spl t ps => ∃ e, S.get t = some e ∧ S' = S.split_ t e.home ps
  | .joi n ts => ∃ t0 r e, ts = t0 :: r ∧ S.get t0 = some e ∧ S' = S.join_ n e.home ts
  | .use t => S' = S.mod t fun e => { e with st := .used }
  | .rcl t => ∃ c, (∀ u e, (S.know t).get u = some e → e.cb = true → c u = true) ∧ c t = true ∧ S' = (S.know t).setcb c
  | .ntc t _ => ∃ c, (∀ u e, (S.know t).get u = some e → e.cb = true → c u = true) ∧ c t = true ∧ S' = (S.know t).setcb c
  | ln => S' = S.ans_ ln
/-- what a line asks -/
def Fit (S : OSt) (ln : Line) : Prop :=
  match ln with
  | .reg t _ => S.get t = none
  | .give t _ _ => ∃ e, S.get t = some e
  | .got .. => True
  | .spl t ps => (∃ e, S.get t = some e ∧ e.ch.length + ps.length ≤ 1000000) ∧ (∀ p ∈ ps, ¬ p.1 ∈ S.es.map (·.1)) ∧ (ps.map (·.1)).Nodup ∧ ps.length ≤ 1000 ∧ ps ≠ []
  | .joi n ts => S.get n = none ∧ ts ≠ [] ∧ ts.length ≤ 1000 ∧ ∀ t ∈ ts, ∃ e, S.get t = some e ∧ e.ch.length + ts.length ≤ 1000000
  | .use t => ∃ e, S.get t = some e
  | .rcl _ => kidsIn S ∧ chs (fun _ => false) S.es ≤ 1000000
  | .ntc _ _ => kidsIn S ∧ chs (fun _ => false) S.es ≤ 1000000
  | ln => ansFit S ln
def spApply (K : PySem.W.Frag) : Sp := fun vs H Q _ => ∃ (L : Lay) (S : OSt) (a : Addr) (ln : Line), vs = [.ref L.bk, .ref a] ∧ OffAt K H L S ∧ H a = some (.tup ln.enc) ∧ Fit S ln ∧ S.es.length ≤ 900000 ∧ ∀ H' L' S', App S ln S' → Stp K H L S H' L' S' → Q .non H'
theorem sc_Book_apply : FnScope ["self", "line", "word"] ["self", "line"] (defScope sBook_apply) := ⟨rfl, rfl, rfl, by decide +kernel, rfl, by decide +kernel, by decide +kernel⟩
abbrev Ok_Book_apply (P : Program) (w : World) (K : PySem.W.Frag) (mg : Str → Option Value) (base : Heap) : Prop := Has P w K mg base CX0 5 (fBook_apply K) ["self", "line"] (spApply K)
theorem ok_Book_apply {P : Program} {w : World} {K : PySem.W.Frag} {mg : Str → Option Value} {base : Heap} (T : Txt K mg) (h_Book_begin : Ok_Book_begin P w K mg base) (h_Book_give : Ok_Book_give P w K mg base) (h_Book_got : Ok_Book_got P w K mg base) (h_Book_split : Ok_Book_split P w K mg base) (h_Book_join : Ok_Book_join P w K mg base) (h_Book_mark : Ok_Book_mark P w K mg base) (h_Book_answer : Ok_Book_answer P w K mg base) : Ok_Book_apply P w K mg base := by
  obtain ⟨fd, F⟩ := T.dBook_apply
  obtain ⟨fd_Book_begin, G_Book_begin, b_Book_begin⟩ := h_Book_begin
  obtain ⟨fd_Book_give, G_Book_give, b_Book_give⟩ := h_Book_give
  obtain ⟨fd_Book_got, G_Book_got, b_Book_got⟩ := h_Book_got
  obtain ⟨fd_Book_split, G_Book_split, b_Book_split⟩ := h_Book_split
  obtain ⟨fd_Book_join, G_Book_join, b_Book_join⟩ := h_Book_join
  obtain ⟨fd_Book_mark, G_Book_mark, b_Book_mark⟩ := h_Book_mark
  obtain ⟨fd_Book_answer, G_Book_answer, b_Book_answer⟩ := h_Book_answer
  refine ⟨fd, FunD.ok (CX := CX0) F sc_Book_apply (fun vs H Q E h => ?_) (fun cdv A outer s H vs Q E hr h => ?_), FunD.bindsN F fun _ _ _ _ _ _ us hl => match us, hl with | [_, _], _ => rfl⟩
  · obtain ⟨L, S, a, ln, rfl, _⟩ := h
    rfl
  · have hu := hu_of hr
    refine ⟨_, PSs.nox (pss_cons (ps_set (i := 2) sc_Book_apply.nd rfl (Or.inl rfl) (pe_ix ix_tup (pv 1) pe_int (fun _ _ => rfl)))
      (pss_one (ps_if (pt_cmpR op_eq (pv 2) pe_str (nomark _)) (pss_one (ps_expr (pe_meth (pv 0) T.cl_Book T.m_Book_begin G_Book_begin (hr.mono (by decide)) b_Book_begin .nil pass0 (pa_cons (pe_ix ix_tup (pv 1) pe_int (fun _ _ => rfl)) (pa_cons (pe_fld (pv 0) rfl) (pa_cons (pe_ix ix_tup (pv 1) pe_int (fun _ _ => rfl)) pa_nil)))))) (pss_one (ps_if (pt_cmpR op_eq (pv 2) pe_str (nomark _)) (pss_one (ps_expr (pe_meth (pv 0) T.cl_Book T.m_Book_give G_Book_give (hr.mono (by decide)) b_Book_give .nil pass0 (pa_cons (pe_dget hu (pe_fld (pv 0) rfl) (pe_ix ix_tup (pv 1) pe_int (fun _ _ => rfl)) (fun _ _ => rfl)) (pa_cons (pe_ix ix_tup (pv 1) pe_int (fun _ _ => rfl)) (pa_cons (pe_ix ix_tup (pv 1) pe_int (fun _ _ => rfl)) pa_nil)))))) (pss_one (ps_if (pt_cmpR op_eq (pv 2) pe_str (nomark _)) (pss_one (ps_expr (pe_meth (pv 0) T.cl_Book T.m_Book_got G_Book_got (hr.mono (by decide)) b_Book_got .nil pass0 (pa_cons (pv 1) pa_nil)))) (pss_one (ps_if (pt_cmpR op_eq (pv 2) pe_str (nomark _)) (pss_one (ps_expr (pe_meth (pv 0) T.cl_Book T.m_Book_split G_Book_split (hr.mono (by decide)) b_Book_split .nil pass0 (pa_cons (pv 1) pa_nil)))) (pss_one (ps_if (pt_cmpR op_eq (pv 2) pe_str (nomark _)) (pss_one (ps_expr (pe_meth (pv 0) T.cl_Book T.m_Book_join G_Book_join (hr.mono (by decide)) b_Book_join .nil pass0 (pa_cons (pv 1) pa_nil)))) (pss_one (ps_if (pt_cmpR op_eq (pv 2) pe_str (nomark _)) (pss_one (ps_fld (pe_dget hu (pe_fld (pv 0) rfl) (pe_ix ix_tup (pv 1) pe_int (fun _ _ => rfl)) (fun _ _ => rfl)) pe_str rfl)) (pss_one (ps_if (PW.pt (pw_or (pt_cmpR op_eq (pv 2) pe_str (nomark _)) (pw_or1 (pt_cmpR op_eq (pv 2) pe_str (nomark _))))) (pss_one (ps_expr (pe_meth (pv 0) T.cl_Book T.m_Book_mark G_Book_mark (hr.mono (by decide)) b_Book_mark .nil pass0 (pa_cons (pe_ix ix_tup (pv 1) pe_int (fun _ _ => rfl)) pa_nil)))) (pss_one (ps_expr (pe_meth (pv 0) T.cl_Book T.m_Book_answer G_Book_answer (hr.mono (by decide)) b_Book_answer .nil pass0 (pa_cons (pv 1) pa_nil))))))))))))))))))), ?_⟩
    obtain ⟨L, S, a, ln, rfl, O, ha, hf, hz, k⟩ := h
    obtain ⟨db, hb⟩ := O.bk
    cases ln with
    | reg t q =>
      have bb : (bokF S.name L.en L.pa S.cr S.nx).lookup ("_begin" : Str) = none := ln_Book_begin _ _ _ _ _
      refine ⟨_, rfl, ixT T ha (.str "register") (hv := atI_nat (j := 0) rfl) ?_⟩
      refine ⟨_, rfl, rfl, _, rfl, ifT (by decide +kernel) ?_⟩
      refine ⟨_, rfl, L.bk, db, _, rfl, hb, bb, _, rfl, ixT T ha (.str t) ⟨_, rfl, rd_Book_office T hb ⟨_, rfl, ixT T ha (.int q) ?_⟩⟩⟩
      exact ⟨L, S, t, some S.name, q, rfl, O, hf, by omega, fun H' L' st => k H' L' _ rfl st⟩
    | give t n r =>
      obtain ⟨e, ht⟩ := hf
      have bb : (bokF S.name L.en L.pa S.cr S.nx).lookup ("_give" : Str) = none := ln_Book_give _ _ _ _ _
      refine ⟨_, rfl, ixT T ha (.str "give") (hv := atI_nat (j := 0) rfl) ?_⟩
      refine ⟨_, rfl, rfl, _, rfl, ifF (by decide +kernel) ?_⟩
      refine ⟨_, rfl, rfl, _, rfl, ifT (by decide +kernel) ?_⟩
      refine ⟨_, rfl, L.bk, db, _, rfl, hb, bb, _, rfl, rd_Book_entries T hb ⟨_, rfl, ixT T ha (.str t) ⟨L.en, _, rfl, dget_some O.en ht, ?_⟩⟩⟩
      refine ⟨_, rfl, ixT T ha (.int n) ⟨_, rfl, ixT T ha (.str r) ?_⟩⟩
      exact ⟨L, S, t, e, n, r, rfl, O, ht, fun H' st => k H' L _ rfl st⟩
    | got t h q n s0 =>
      have bb : (bokF S.name L.en L.pa S.cr S.nx).lookup ("_got" : Str) = none := ln_Book_got _ _ _ _ _
      refine ⟨_, rfl, ixT T ha (.str "got") (hv := atI_nat (j := 0) rfl) ?_⟩
      refine ⟨_, rfl, rfl, _, rfl, ifF (by decide +kernel) ?_⟩
      refine ⟨_, rfl, rfl, _, rfl, ifF (by decide +kernel) ?_⟩
      refine ⟨_, rfl, rfl, _, rfl, ifT (by decide +kernel) ?_⟩
      exact ⟨_, rfl, L.bk, db, _, rfl, hb, bb, _, rfl, L, S, a, t, h, q, n, s0, rfl, O, ha, by omega, fun H' L' st => k H' L' _ rfl st⟩
    | spl t ps =>
      obtain ⟨⟨e, ht, hc⟩, h2, h3, h4, h5⟩ := hf
      have bb : (bokF S.name L.en L.pa S.cr S.nx).lookup ("_split" : Str) = none := ln_Book_split _ _ _ _ _
      refine ⟨_, rfl, ixT T ha (.str "split") (hv := atI_nat (j := 0) rfl) ?_⟩
      refine ⟨_, rfl, rfl, _, rfl, ifF (by decide +kernel) ?_⟩
      refine ⟨_, rfl, rfl, _, rfl, ifF (by decide +kernel) ?_⟩
      refine ⟨_, rfl, rfl, _, rfl, ifF (by decide +kernel) ?_⟩
      refine ⟨_, rfl, rfl, _, rfl, ifT (by decide +kernel) ?_⟩
      exact ⟨_, rfl, L.bk, db, _, rfl, hb, bb, _, rfl, L, S, a, t, e, ps, rfl, O, ha, ht, h2, h3, by omega, hc, h5, fun H' L' st => k H' L' _ ⟨e, ht, rfl⟩ st⟩
    | joi n ts =>
      obtain ⟨h1, h2, h3, h4⟩ := hf
      obtain ⟨t0, r, rfl⟩ : ∃ t0 r, ts = t0 :: r := by
        cases ts with
        | nil => exact absurd rfl h2
        | cons x y => exact ⟨x, y, rfl⟩
      obtain ⟨e0, h0, _⟩ := h4 t0 List.mem_cons_self
      rw [List.length_cons] at h3
      have bb : (bokF S.name L.en L.pa S.cr S.nx).lookup ("_join" : Str) = none := ln_Book_join _ _ _ _ _
      refine ⟨_, rfl, ixT T ha (.str "join") (hv := atI_nat (j := 0) rfl) ?_⟩
      refine ⟨_, rfl, rfl, _, rfl, ifF (by decide +kernel) ?_⟩
      refine ⟨_, rfl, rfl, _, rfl, ifF (by decide +kernel) ?_⟩
      refine ⟨_, rfl, rfl, _, rfl, ifF (by decide +kernel) ?_⟩
      refine ⟨_, rfl, rfl, _, rfl, ifF (by decide +kernel) ?_⟩
      refine ⟨_, rfl, rfl, _, rfl, ifT (by decide +kernel) ?_⟩
      refine ⟨_, rfl, L.bk, db, _, rfl, hb, bb, _, rfl, L, S, a, n, t0, e0, r, rfl, O, ha, h1, h0, fun t ht => ?_, by omega, by omega, fun H' L' st => k H' L' _ ⟨t0, r, e0, rfl, h0, rfl⟩ st⟩
      obtain ⟨e, q1, q2⟩ := h4 t ht
      rw [List.length_cons] at q2
      exact ⟨e, q1, by omega⟩
    | use t =>
      obtain ⟨e, ht⟩ := hf
      obtain ⟨dx, hx⟩ := O.ent t e (gt_mem ht)
      refine ⟨_, rfl, ixT T ha (.str "use") (hv := atI_nat (j := 0) rfl) ?_⟩
      refine ⟨_, rfl, rfl, _, rfl, ifF (by decide +kernel) ?_⟩
      refine ⟨_, rfl, rfl, _, rfl, ifF (by decide +kernel) ?_⟩
      refine ⟨_, rfl, rfl, _, rfl, ifF (by decide +kernel) ?_⟩
      refine ⟨_, rfl, rfl, _, rfl, ifF (by decide +kernel) ?_⟩
      refine ⟨_, rfl, rfl, _, rfl, ifF (by decide +kernel) ?_⟩
      refine ⟨_, rfl, rfl, _, rfl, ifT (by decide +kernel) ?_⟩
      refine ⟨_, rfl, rd_Book_entries T hb ⟨_, rfl, ixT T ha (.str t) ⟨L.en, _, rfl, dget_some O.en ht, ?_⟩⟩⟩
      refine ⟨L.ea t, cEntry K, dx, _, rfl, hx, T.cl_Entry, T.n_Entry_state, (of_decide_eq_true (by kernel_rfl)), ?_⟩
      have e1 := pt_Entry_state t e (L.ca t) .used
      have e2 : Stt.used.str = ("used" : Str) := rfl
      rw [e2] at e1
      rw [e1]
      exact k _ L _ rfl (stp_ent (e := e) O (f := fun e => { e with st := .used }) ht hx rfl)
    | rcl t =>
      obtain ⟨h1, h2⟩ := hf
      have bb : (bokF S.name L.en L.pa S.cr S.nx).lookup ("_mark" : Str) = none := ln_Book_mark _ _ _ _ _
      refine ⟨_, rfl, ixT T ha (.str "recall") (hv := atI_nat (j := 0) rfl) ?_⟩
      refine ⟨_, rfl, rfl, _, rfl, ifF (by decide +kernel) ?_⟩
      refine ⟨_, rfl, rfl, _, rfl, ifF (by decide +kernel) ?_⟩
      refine ⟨_, rfl, rfl, _, rfl, ifF (by decide +kernel) ?_⟩
      refine ⟨_, rfl, rfl, _, rfl, ifF (by decide +kernel) ?_⟩
      refine ⟨_, rfl, rfl, _, rfl, ifF (by decide +kernel) ?_⟩
      refine ⟨_, rfl, rfl, _, rfl, ifF (by decide +kernel) ?_⟩
      refine ⟨_, rfl, rfl, _, rfl, ifT (by decide +kernel) (iteT ?_)⟩
      refine ⟨_, rfl, L.bk, db, _, rfl, hb, bb, _, rfl, ixT T ha (.str t) ?_⟩
      exact ⟨L, S, t, rfl, O, h1, by omega, h2, fun c H' L' q1 q2 st => k H' L' _ ⟨c, q1, q2, rfl⟩ st⟩
    | ntc t o =>
      obtain ⟨h1, h2⟩ := hf
      have bb : (bokF S.name L.en L.pa S.cr S.nx).lookup ("_mark" : Str) = none := ln_Book_mark _ _ _ _ _
      refine ⟨_, rfl, ixT T ha (.str "notice") (hv := atI_nat (j := 0) rfl) ?_⟩
      refine ⟨_, rfl, rfl, _, rfl, ifF (by decide +kernel) ?_⟩
      refine ⟨_, rfl, rfl, _, rfl, ifF (by decide +kernel) ?_⟩
      refine ⟨_, rfl, rfl, _, rfl, ifF (by decide +kernel) ?_⟩
      refine ⟨_, rfl, rfl, _, rfl, ifF (by decide +kernel) ?_⟩
      refine ⟨_, rfl, rfl, _, rfl, ifF (by decide +kernel) ?_⟩
      refine ⟨_, rfl, rfl, _, rfl, ifF (by decide +kernel) ?_⟩
      refine ⟨_, rfl, rfl, _, rfl, ifF (by decide +kernel) ?_⟩
      refine ⟨_, rfl, rfl, _, rfl, ifT (by decide +kernel) ?_⟩
      refine ⟨_, rfl, L.bk, db, _, rfl, hb, bb, _, rfl, ixT T ha (.str t) ?_⟩
      exact ⟨L, S, t, rfl, O, h1, by omega, h2, fun c H' L' q1 q2 st => k H' L' _ ⟨c, q1, q2, rfl⟩ st⟩
    | rcp t n =>
      have bb : (bokF S.name L.en L.pa S.cr S.nx).lookup ("_answer" : Str) = none := ln_Book_answer _ _ _ _ _
      refine ⟨_, rfl, ixT T ha (.str "receipt") (hv := atI_nat (j := 0) rfl) ?_⟩
      refine ⟨_, rfl, rfl, _, rfl, ifF (by decide +kernel) ?_⟩
      refine ⟨_, rfl, rfl, _, rfl, ifF (by decide +kernel) ?_⟩
      refine ⟨_, rfl, rfl, _, rfl, ifF (by decide +kernel) ?_⟩
      refine ⟨_, rfl, rfl, _, rfl, ifF (by decide +kernel) ?_⟩
      refine ⟨_, rfl, rfl, _, rfl, ifF (by decide +kernel) ?_⟩
      refine ⟨_, rfl, rfl, _, rfl, ifF (by decide +kernel) ?_⟩
      refine ⟨_, rfl, rfl, _, rfl, ifF (by decide +kernel) ?_⟩
      refine ⟨_, rfl, rfl, _, rfl, ifF (by decide +kernel) ?_⟩
      exact ⟨_, rfl, L.bk, db, _, rfl, hb, bb, _, rfl, L, S, a, _, rfl, O, ha, hf, fun H' L' st => k H' L' _ rfl st⟩
    | ntd t o =>
      have bb : (bokF S.name L.en L.pa S.cr S.nx).lookup ("_answer" : Str) = none := ln_Book_answer _ _ _ _ _
      refine ⟨_, rfl, ixT T ha (.str "noted") (hv := atI_nat (j := 0) rfl) ?_⟩
      refine ⟨_, rfl, rfl, _, rfl, ifF (by decide +kernel) ?_⟩
      refine ⟨_, rfl, rfl, _, rfl, ifF (by decide +kernel) ?_⟩
      refine ⟨_, rfl, rfl, _, rfl, ifF (by decide +kernel) ?_⟩
      refine ⟨_, rfl, rfl, _, rfl, ifF (by decide +kernel) ?_⟩
      refine ⟨_, rfl, rfl, _, rfl, ifF (by decide +kernel) ?_⟩
      refine ⟨_, rfl, rfl, _, rfl, ifF (by decide +kernel) ?_⟩
      refine ⟨_, rfl, rfl, _, rfl, ifF (by decide +kernel) ?_⟩
      refine ⟨_, rfl, rfl, _, rfl, ifF (by decide +kernel) ?_⟩
      exact ⟨_, rfl, L.bk, db, _, rfl, hb, bb, _, rfl, L, S, a, _, rfl, O, ha, hf, fun H' L' st => k H' L' _ rfl st⟩
    | pay t o q =>
      have bb : (bokF S.name L.en L.pa S.cr S.nx).lookup ("_answer" : Str) = none := ln_Book_answer _ _ _ _ _
      refine ⟨_, rfl, ixT T ha (.str "pay") (hv := atI_nat (j := 0) rfl) ?_⟩
      refine ⟨_, rfl, rfl, _, rfl, ifF (by decide +kernel) ?_⟩
      refine ⟨_, rfl, rfl, _, rfl, ifF (by decide +kernel) ?_⟩
      refine ⟨_, rfl, rfl, _, rfl, ifF (by decide +kernel) ?_⟩
      refine ⟨_, rfl, rfl, _, rfl, ifF (by decide +kernel) ?_⟩
      refine ⟨_, rfl, rfl, _, rfl, ifF (by decide +kernel) ?_⟩
      refine ⟨_, rfl, rfl, _, rfl, ifF (by decide +kernel) ?_⟩
      refine ⟨_, rfl, rfl, _, rfl, ifF (by decide +kernel) ?_⟩
      refine ⟨_, rfl, rfl, _, rfl, ifF (by decide +kernel) ?_⟩
      exact ⟨_, rfl, L.bk, db, _, rfl, hb, bb, _, rfl, L, S, a, _, rfl, O, ha, hf, fun H' L' st => k H' L' _ rfl st⟩
    | pad t q =>
      have bb : (bokF S.name L.en L.pa S.cr S.nx).lookup ("_answer" : Str) = none := ln_Book_answer _ _ _ _ _
      refine ⟨_, rfl, ixT T ha (.str "paid") (hv := atI_nat (j := 0) rfl) ?_⟩
      refine ⟨_, rfl, rfl, _, rfl, ifF (by decide +kernel) ?_⟩
      refine ⟨_, rfl, rfl, _, rfl, ifF (by decide +kernel) ?_⟩
      refine ⟨_, rfl, rfl, _, rfl, ifF (by decide +kernel) ?_⟩
      refine ⟨_, rfl, rfl, _, rfl, ifF (by decide +kernel) ?_⟩
      refine ⟨_, rfl, rfl, _, rfl, ifF (by decide +kernel) ?_⟩
      refine ⟨_, rfl, rfl, _, rfl, ifF (by decide +kernel) ?_⟩
      refine ⟨_, rfl, rfl, _, rfl, ifF (by decide +kernel) ?_⟩
      refine ⟨_, rfl, rfl, _, rfl, ifF (by decide +kernel) ?_⟩
      exact ⟨_, rfl, L.bk, db, _, rfl, hb, bb, _, rfl, L, S, a, _, rfl, O, ha, hf, fun H' L' st => k H' L' _ rfl st⟩
end LH
namespace LH
open PySem PySem.Spec PyProof.Rows L2
/-! ### enumerate(xs, k) of an empty list -/
def It0 (K : PySem.W.Frag) (a : Addr) : It := ⟨fun _ _ => False, fun _ _ _ _ => False, fun _ H => SqL K H a []⟩
theorem turn0 {P : Program} {w : World} {K : PySem.W.Frag} {elts : List Expr} {kk : Nat} {tpos : Pos} (a e it : Addr) :
    Turn P w K (.Tuple elts kk tpos) (It0 K a) [e, it] e (fun _ h => (∃ k old, IsEnum h e it k old) ∧ h.IsListIter it a 0 ∧ e ≠ it) where
  mem := List.mem_cons_self
  obj := fun i h st b hb => by
    obtain ⟨⟨k, old, he⟩, ⟨o, ho, hc, hd⟩, _⟩ := st
    rcases List.mem_cons.mp hb with z | z
    · rw [z]
      exact ⟨_, he, fun v q => nomatch q⟩
    · rw [List.mem_singleton.mp z]
      exact ⟨o, ho, fun v q => by rw [hd] at q; cases q⟩
  keep := fun i h h' st k => by
    obtain ⟨⟨n, old, he⟩, hi, hne⟩ := st
    exact ⟨⟨n, old, k e List.mem_cons_self _ he⟩, hi.at fun o q => k it (List.mem_cons_of_mem _ (List.mem_singleton.mpr rfl)) o q, hne⟩
  item := fun X _ _ _ _ i pins s σ H E I hf st hg => False.elim hg
  done := by
    intro X hP hw hK hc i pins s σ H E I hf st hg
    subst hP hw hK
    obtain ⟨⟨k, old, he⟩, hit, hne⟩ := st
    obtain ⟨its, rv, p, hz⟩ := I.list hg
    cases rv
    obtain ⟨f0, f1, f2, f3, f4, f5⟩ := hf it (List.mem_cons_of_mem _ (List.mem_singleton.mpr rfl))
    have hne2 : a ≠ it := fun z => by
      obtain ⟨o, ho, hc2, _⟩ := p.isList
      obtain ⟨o2, ho2, hc3, _⟩ := hit
      rw [z, ho2] at ho
      cases ho
      rw [hc3] at hc2
      injection hc2 with hc2
      exact absurd hc2 (by decide)
    have hh : X.A.in1.handled = none := I.ok.hd hc
    exact wpAny_pyNext_enum_endD (Draws.list hh it a hne2 #[]) he ⟨hit, p.isList⟩ fun h' eb => ⟨rfl, I.turned (t' := s.toks) (fun b o hb q => eb b o hb q) f0 f1 f3 f4 f5⟩
  self := fun A i s Q E st h => by
    obtain ⟨⟨_, _, he⟩, _⟩ := st
    exact wpAny_pyIter_enum he h
def iEnum0 (K : PySem.W.Frag) (ta : TA) : TI := fun σ H R => ta σ H fun vs H1 => ∃ (a : Addr) (k : Int), vs = [.ref a, .int k] ∧ SqL K H1 a [] ∧ -(2 ^ 63) ≤ k ∧ k < 2 ^ 63 ∧ R (It0 K a) H1
theorem pi_enum0 {X : Cx} {e e2 : Expr} {ta : TA} {p pos tpos : Pos} {elts : List Expr} {kk : Nat} (hg : Gl X "enumerate") (hm : X.mg "enumerate" = none) (ha : PA X [e, e2] ta)
    (hs : starEach [e, e2] X.env = (false, eval e X.env) :: starEach [e2] X.env := by rfl) (hpl : (backTo pos (starEach [e2] X.env)).any (·.1) = false := by rfl) :
    PI X (.Tuple elts kk tpos) (.Call (.Name "enumerate" p) [e, e2] [] pos) (iEnum0 X.K ta) := by
  refine ⟨fun pins s σ H R I h => ?_⟩
  refine Call_ (ld_blt I hg hm boot_enumerate (PyProof.Rows.callWith_type1 (thn (ha.run pos pins s σ H _ I h) fun us s1 ⟨vs, H1, I1, r1, q1⟩ => ?_) hs hpl))
  obtain ⟨a, k, ex, hq, k0, k1, q⟩ := q1
  subst ex
  cases r1 with
  | cons r rr =>
    cases r
    cases rr with
    | cons r2 rr2 =>
      cases rr2
      obtain ⟨t, rfl⟩ := r2
      obtain ⟨its, rv, p', hz⟩ := I1.list hq
      cases rv
      refine enum_begins (begins_list a #[]) p'.isList k0 k1 fun h' he hit hsz hk => wpAny_pyIter_enum he ?_
      have I2 : L2.Inv X pins σ H1 { s1 with heap := h' } := I1.kept (t' := s1.toks) hk
      have li : h'.IsListIter s1.heap.objs.size a 0 := ⟨_, hit, rfl, rfl⟩
      refine ⟨s1.heap.objs.size + 1, [s1.heap.objs.size + 1, s1.heap.objs.size], _, _, H1, rfl, I2, turn0 a (s1.heap.objs.size + 1) s1.heap.objs.size, ⟨⟨k, .none, he⟩, li, Nat.succ_ne_self _⟩, fun b hb => ?_, q⟩
      have hle : s1.heap.objs.size ≤ b := by
        rcases List.mem_cons.mp hb with z | z
        · rw [z]
          exact Nat.le_succ _
        · rw [List.mem_singleton.mp z]
          exact Nat.le_refl _
      exact I1.fpOk hle (I1.hok.fresh hle)
theorem for_none {K : PySem.W.Frag} {a : Addr} {g : TG} {tb : TS} {D : Ends} {σ : L2.St} {H : Hp} (h : SqL K H a []) (hd : D.nx σ H) :
    ∃ W : Nat → Nat → L2.St → Hp → Prop, (∃ m, W 0 m σ H) ∧ ∀ i m σ H, W i m σ H →
      ((It0 K a).stop i H ∧ D.nx σ H) ∨ ((It0 K a).go i H ∧ ∃ N : L2.St → Hp → Prop, (∀ σ' H', N σ' H' → ∃ m', m' < m ∧ W (i + 1) m' σ' H') ∧ ∀ v H', (It0 K a).yld i H v H' → g v σ H' fun σ2 H2 => tb { D with nx := N, ct := N, bk := D.nx } σ2 H2) :=
  ⟨fun _ _ σ' H' => σ' = σ ∧ H' = H, ⟨0, rfl, rfl⟩, fun i m σ' H' ⟨e1, e2⟩ => by
    subst e1 e2
    exact .inl ⟨h, hd⟩⟩
end LH
namespace LH
open PySem PySem.Spec PyProof.Rows L2
/-! ### lists of tuples -/
def Tups (H : Hp) : List V → List (List V) → Prop
  | [], [] => True
  | v :: vs, r :: rs => (∃ a, v = .ref a ∧ H a = some (.tup r)) ∧ Tups H vs rs
  | _, _ => False
theorem Tups.len {H : Hp} : ∀ {vs : List V} {rs : List (List V)}, Tups H vs rs → vs.length = rs.length
  | [], [], _ => rfl
  | _ :: vs, _ :: rs, h => by
    have q := Tups.len (vs := vs) (rs := rs) h.2
    rw [List.length_cons, List.length_cons, q]
  | [], _ :: _, h => False.elim h
  | _ :: _, [], h => False.elim h
theorem Tups.mono {H H' : Hp} (f : ∀ a r, H a = some (.tup r) → H' a = some (.tup r)) : ∀ {vs : List V} {rs : List (List V)}, Tups H vs rs → Tups H' vs rs
  | [], [], _ => trivial
  | v :: vs, r :: rs, h => by
    obtain ⟨⟨a, e, q⟩, t⟩ := h
    exact ⟨⟨a, e, f _ _ q⟩, t.mono f⟩
  | [], _ :: _, h => False.elim h
  | _ :: _, [], h => False.elim h
theorem Tups.same {H H' : Hp} {vs : List V} {rs : List (List V)} (h : Tups H vs rs) (s : Same H H') : Tups H' vs rs := h.mono fun a r q => s a _ q
theorem Tups.app {H : Hp} : ∀ {vs ws : List V} {rs qs : List (List V)}, Tups H vs rs → Tups H ws qs → Tups H (vs ++ ws) (rs ++ qs)
  | [], _, [], _, _, k => k
  | v :: vs, _, r :: rs, _, h, k => ⟨h.1, Tups.app (vs := vs) (rs := rs) h.2 k⟩
  | [], _, _ :: _, _, h, _ => False.elim h
  | _ :: _, _, [], _, h, _ => False.elim h
theorem Tups.one {H : Hp} {a : Addr} {r : List V} (h : H a = some (.tup r)) : Tups H [.ref a] [r] := ⟨⟨a, rfl, h⟩, trivial⟩
theorem Tups.snoc {H : Hp} {vs : List V} {rs : List (List V)} {a : Addr} {r : List V} (h : Tups H vs rs) (k : H a = some (.tup r)) : Tups H (vs ++ [.ref a]) (rs ++ [r]) := h.app (.one k)
theorem Tups.get {H : Hp} : ∀ {vs : List V} {rs : List (List V)} {i : Nat} {v : V}, Tups H vs rs → vs[i]? = some v → ∃ a r, rs[i]? = some r ∧ v = .ref a ∧ H a = some (.tup r)
  | v :: vs, r :: rs, 0, w, h, e => by
    obtain ⟨⟨a, q, z⟩, _⟩ := h
    injection e with e
    subst e
    exact ⟨a, r, rfl, q, z⟩
  | v :: vs, r :: rs, i + 1, w, h, e => Tups.get (vs := vs) (rs := rs) (i := i) h.2 e
  | [], [], i, w, _, e => by cases e
  | [], _ :: _, _, _, h, _ => False.elim h
  | _ :: _, [], _, _, h, _ => False.elim h
/-- data of a flat tuple -/
def flatd : V → PyData
  | .str x => .str x
  | .int i => .int i
  | .bl b => .bool b
  | _ => .none
def flatV : V → Prop
  | .str _ | .int _ | .bl _ | .non => True
  | _ => False
theorem Dp.flat {K : PySem.W.Frag} {H : Hp} : ∀ {v : V}, flatV v → Dp K H v (flatd v)
  | .str x, _ => .str x
  | .int i, _ => .int i
  | .bl b, _ => .bl b
  | .non, _ => .non
theorem DpAll.flat {K : PySem.W.Frag} {H : Hp} : ∀ {vs : List V}, (∀ v ∈ vs, flatV v) → DpAll K H vs (vs.map flatd)
  | [], _ => .nil
  | v :: vs, h => .cons (Dp.flat (h v List.mem_cons_self)) (DpAll.flat fun u hu => h u (List.mem_cons_of_mem _ hu))
theorem Tups.dp {K : PySem.W.Frag} {H : Hp} : ∀ {vs : List V} {rs : List (List V)}, Tups H vs rs → (∀ r ∈ rs, ∀ v ∈ r, flatV v) → DpAll K H vs (rs.map fun r => PyData.tuple (r.map flatd))
  | [], [], _, _ => .nil
  | v :: vs, r :: rs, h, f => by
    obtain ⟨⟨a, rfl, q⟩, t⟩ := h
    exact .cons (.tup (SqT.of q) (DpAll.flat (f r List.mem_cons_self))) (Tups.dp t fun r' hr => f r' (List.mem_cons_of_mem _ hr))
  | [], _ :: _, h, _ => False.elim h
  | _ :: _, [], h, _ => False.elim h
end LH
namespace LH
open PySem PySem.Spec PyProof.Rows L2
/-! ### offices: what they show -/
def newOff (o : Str) : OSt := ⟨o, [], [], 0, 1, 0⟩
def spOffInit (K : PySem.W.Frag) : Sp := fun vs H Q _ => ∃ (p dx : Addr) (o : Str), vs = [.ref p, .str o, .str ""] ∧ H p = some (.ins (cOffice K) dx []) ∧ o ∈ names4 ∧
  ∀ L H', OffAt K H' L (newOff o) → L.of = p → Frm H (fun b => b = p) H' (Foot L (newOff o)) → Q .non H'
theorem sc_Office_init : FnScope ["self", "name", "journal", "number", "line"] ["self", "name", "journal"] (defScope sOffice_init) := ⟨rfl, rfl, rfl, by decide +kernel, rfl, by decide +kernel, by decide +kernel⟩
abbrev Ok_Office_init (P : Program) (w : World) (K : PySem.W.Frag) (mg : Str → Option Value) (base : Heap) : Prop := ∃ fd ds, FnOk P w K mg base CX0 3 (fOffice_init K) fd ["self", "name", "journal"] (spOffInit K) ∧ Vals [.str ""] ds ∧ Binds K fd ["self", "name", "journal"] ds
theorem ok_Office_init {P : Program} {w : World} {K : PySem.W.Frag} {mg : Str → Option Value} {base : Heap} (T : Txt K mg) (h_is_office : Ok_is_office P w K mg base) (h_Book_init : Ok_Book_init P w K mg base) (h_parse_journal : Ok_parse_journal P w K mg base) : Ok_Office_init P w K mg base := by
  obtain ⟨fd, F⟩ := T.dOffice_init
  obtain ⟨fd_is_office, G_is_office, b_is_office⟩ := h_is_office
  have k_is_office : PySem.W.keepIn K (.ref (f_is_office K)) = true := by
    obtain ⟨_, q⟩ := T.d_is_office
    exact q.kp
  obtain ⟨fd_Book_init, G_Book_init, b_Book_init⟩ := h_Book_init
  obtain ⟨fd_parse_journal, G_parse_journal, b_parse_journal⟩ := h_parse_journal
  have k_parse_journal : PySem.W.keepIn K (.ref (f_parse_journal K)) = true := by
    obtain ⟨_, q⟩ := T.d_parse_journal
    exact q.kp
  obtain ⟨dsv, hdsv, hbnd⟩ := F.binds1 (ps := ["self", "name", "journal"]) 2 0 (by simp) rfl fun T kV doc pm an cdv ct us its hl hi => match us, hl, its, hi with | [_, _], _, [_], _ => ⟨_, rfl, rfl⟩
  refine ⟨fd, dsv, FunD.ok (CX := CX0) F sc_Office_init (fun vs H Q E h => ?_) (fun cdv A outer s H vs Q E hr h => ?_), hdsv, hbnd⟩
  · obtain ⟨p, dx, o, rfl, _⟩ := h
    rfl
  · have hu := hu_of hr
    refine ⟨_, PSs.nox (pss_cons (ps_if (pt_not (pt_val (pe_call G_is_office (hr.mono (by decide)) rfl T.g_is_office k_is_office b_is_office .nil pass0 (pa_cons (pv 1) pa_nil)))) (pss_one ps_never) pss_nil)
      (pss_cons (ps_fld (pv 0) (pv 1) rfl)
      (pss_cons (ps_fld (pv 0) (pe_make T.mk_Book G_Book_init (hr.mono (by decide)) rfl T.g_Book b_Book_init .nil pass0 (pa_cons (pv 1) pa_nil)) rfl)
      (pss_cons (ps_fld (pv 0) (pe_lst pa_nil) rfl)
      (pss_one (ps_for PassesOwn.never rfl (pi_enum0 (by rfl) T.b_enumerate (pa_cons (pe_call G_parse_journal (hr.mono (by decide)) rfl T.g_parse_journal k_parse_journal b_parse_journal .nil pass0 (pa_cons (pv 2) pa_nil)) (pa_cons pe_int pa_nil))) (pg_tup rfl (pgs_cons (pg_name (i := 3) sc_Office_init.nd rfl (Or.inl rfl)) (pgs_cons (pg_name (i := 4) sc_Office_init.nd rfl (Or.inl rfl)) pgs_nil))) pss_never)))))), ?_⟩
    obtain ⟨p, dx, o, rfl, hp, ho, k⟩ := h
    refine ⟨_, rfl, o, rfl, ho, ?_⟩
    refine ⟨_, rfl, ifF rfl ?_⟩
    refine ⟨_, rfl, _, rfl, p, cOffice K, dx, _, rfl, hp, T.cl_Office, T.n_Office_name, (of_decide_eq_true (by kernel_rfl)), ?_⟩
    have hp1 := upd_same (H := H) (a := p) (o := HO.ins (cOffice K) dx (putF "name" (.str o) []))
    have f1 : Frm H (fun b => b = p) (upd H p (HO.ins (cOffice K) dx (putF "name" (.str o) []))) (fun b => b = p) := ⟨fun b x e n => (upd_ne n).trans e, fun b f => .inl f, fun b n => by
      by_cases z : b = p
      · rw [z, upd_same]
        intro w
        cases w
      · rw [upd_ne z]
        exact n⟩
    generalize hH1 : upd H p (HO.ins (cOffice K) dx (putF "name" (.str o) [])) = H1 at hp1 f1 ⊢
    refine ⟨_, rfl, fun x dy hx hdy ne => ⟨x, dy, o, rfl, upd_same, fun d1 d2 H2 hd1 hd2 n12 n1x n2x h2x h2a h2b hk => ⟨rfl, ?_⟩⟩⟩
    have xp : p ≠ x := ne_of_none hp1 hx
    have yp : p ≠ dy := ne_of_none hp1 hdy
    have up : ∀ {b : Addr}, b ≠ x → b ≠ dy → (upd (upd H1 dy (.own x)) x (.ins (cBook K) dy [])) b = H1 b := fun h1 h2 => by rw [upd_ne h1, upd_ne h2]
    have d1y : d1 ≠ dy := fun z => by
      rw [z, upd_ne (fun w => ne w), upd_same] at hd1
      cases hd1
    have d2y : d2 ≠ dy := fun z => by
      rw [z, upd_ne (fun w => ne w), upd_same] at hd2
      cases hd2
    rw [up n1x d1y] at hd1
    rw [up n2x d2y] at hd2
    have p1 : p ≠ d1 := ne_of_none hp1 hd1
    have p2 : p ≠ d2 := ne_of_none hp1 hd2
    have f2 : Frm H1 (fun b => b = p) H2 (fun b => b = p ∨ b = x ∨ b = d1 ∨ b = d2) := ⟨fun b u e n => by
        have h1 : b ≠ x := ne_of_none e hx
        have h2 : b ≠ d1 := ne_of_none e hd1
        have h3 : b ≠ d2 := ne_of_none e hd2
        have h4 : b ≠ dy := ne_of_none e hdy
        rw [hk b h1 h2 h3, up h1 h4]
        exact e,
      fun b f => by
        rcases f with rfl | rfl | rfl | rfl
        · exact .inl rfl
        · exact .inr hx
        · exact .inr hd1
        · exact .inr hd2,
      fun b n => by
        by_cases h1 : b = x
        · rw [h1, h2x]
          intro w
          cases w
        by_cases h2 : b = d1
        · rw [h2, h2a]
          intro w
          cases w
        by_cases h3 : b = d2
        · rw [h3, h2b]
          intro w
          cases w
        rw [hk b h1 h2 h3]
        by_cases h4 : b = dy
        · rw [h4, upd_ne (fun w => ne w), upd_same]
          intro w
          cases w
        · rw [up h1 h4]
          exact n⟩
    have hp2 : H2 p = some (HO.ins (cOffice K) dx (putF "name" (.str o) [])) := by
      rw [hk p xp p1 p2, up xp yp]
      exact hp1
    refine ⟨_, rfl, p, cOffice K, dx, _, rfl, hp2, T.cl_Office, T.n_Office__book, (of_decide_eq_true (by kernel_rfl)), ?_⟩
    refine ⟨Nat.zero_le _, fun l hl => ?_⟩
    have pl : p ≠ l := ne_of_none upd_same hl
    rw [upd_ne pl.symm] at hl
    refine ⟨_, rfl, p, cOffice K, dx, _, rfl, (upd_ne pl).trans upd_same, T.cl_Office, T.n_Office__lines, (of_decide_eq_true (by kernel_rfl)), ?_⟩
    have eH : upd (upd (upd H2 p (HO.ins (cOffice K) dx (putF "_book" (.ref x) (putF "name" (.str o) [])))) l (.lst [])) p (HO.ins (cOffice K) dx (putF "_lines" (.ref l) (putF "_book" (.ref x) (putF "name" (.str o) [])))) = upd (upd H2 l (.lst [])) p (HO.ins (cOffice K) dx (offF o x l)) := by
      rw [mk_Office]
      funext b
      by_cases z : b = p
      · rw [z, upd_same, upd_same]
      · rw [upd_ne z, upd_ne z]
        by_cases z2 : b = l
        · rw [z2, upd_same, upd_same]
        · rw [upd_ne z2, upd_ne z2, upd_ne z]
    rw [eH]
    have lx : x ≠ l := ne_of_none h2x hl
    have l1 : d1 ≠ l := ne_of_none h2a hl
    have l2 : d2 ≠ l := ne_of_none h2b hl
    have f3 : Frm H2 (fun b => b = p ∨ b = x ∨ b = d1 ∨ b = d2) (upd (upd H2 l (.lst [])) p (HO.ins (cOffice K) dx (offF o x l))) (fun b => b = p ∨ b = x ∨ b = d1 ∨ b = d2 ∨ b = l) := ⟨fun b u e n => by
        rw [upd_ne fun z => n (.inl z), upd_ne (ne_of_none e hl)]
        exact e,
      fun b f => by
        rcases f with f | f | f | f | f
        · exact .inl (.inl f)
        · exact .inl (.inr (.inl f))
        · exact .inl (.inr (.inr (.inl f)))
        · exact .inl (.inr (.inr (.inr f)))
        · rw [f]
          exact .inr hl,
      fun b n => by
        by_cases z : b = p
        · rw [z, upd_same]
          intro w
          cases w
        rw [upd_ne z]
        by_cases z2 : b = l
        · rw [z2, upd_same]
          intro w
          cases w
        · rw [upd_ne z2]
          exact n⟩
    have hx3 : (upd (upd H2 l (.lst [])) p (HO.ins (cOffice K) dx (offF o x l))) x = some (.ins (cBook K) dy (bokF o d1 d2 0 1)) := by
      rw [upd_ne xp.symm, upd_ne lx]
      exact h2x
    have h13 : (upd (upd H2 l (.lst [])) p (HO.ins (cOffice K) dx (offF o x l))) d1 = some (.dK []) := by
      rw [upd_ne p1.symm, upd_ne l1]
      exact h2a
    have h23 : (upd (upd H2 l (.lst [])) p (HO.ins (cOffice K) dx (offF o x l))) d2 = some (.dK []) := by
      rw [upd_ne p2.symm, upd_ne l2]
      exact h2b
    have hl3 : (upd (upd H2 l (.lst [])) p (HO.ins (cOffice K) dx (offF o x l))) l = some (.lst []) := by
      rw [upd_ne pl.symm, upd_same]
    have hp3 := upd_same (H := upd H2 l (.lst [])) (a := p) (o := HO.ins (cOffice K) dx (offF o x l))
    generalize hH3 : upd (upd H2 l (.lst [])) p (HO.ins (cOffice K) dx (offF o x l)) = H3 at f3 hx3 h13 h23 hl3 hp3 ⊢
    have O : OffAt K H3 ⟨p, x, l, d1, d2, fun _ => p, fun _ => p⟩ (newOff o) := ⟨⟨_, hp3⟩, ⟨_, hx3⟩, ⟨_, rfl, hl3⟩, h13, ⟨fun _ => p, h23, fun q hq => by cases hq⟩, fun t e m => (by cases m), fun t e m => (by cases m), List.nodup_nil, List.nodup_nil, fun t u m => (by cases m), fun t m => (by cases m), n12⟩
    refine ⟨_, rfl, rfl, fun r H4 sm hr hn => ⟨r, 1, rfl, SqL.of hn, by decide, by decide, for_none (SqL.of hn) ?_⟩⟩
    refine k _ H4 (O.same sm) rfl (((f1.trans f2).trans f3).trans ?_)
    refine ⟨fun b u e n => sm b u e, fun b f => .inl ?_, fun b n => ?_⟩
    · rcases f with f | f | f | f | f | ⟨t, m, _⟩
      · exact .inl f
      · exact .inr (.inl f)
      · exact .inr (.inr (.inr (.inr f)))
      · exact .inr (.inr (.inl f))
      · exact .inr (.inr (.inr (.inl f)))
      · cases m
    · cases e : H3 b with
      | none => exact absurd e n
      | some u =>
        rw [sm b u e]
        intro w
        cases w
def spOffEntry (K : PySem.W.Frag) : Sp := fun vs H Q _ => ∃ (L : Lay) (S : OSt) (t : Str), vs = [.ref L.of, .str t] ∧ OffAt K H L S ∧ (S.get t = none → Q .non H) ∧ (∀ e, S.get t = some e → ∀ r, H r = none → Q (.ref r) (upd H r (.tup (told t e))))
theorem sc_Office_entry : FnScope ["self", "thing", "found"] ["self", "thing"] (defScope sOffice_entry) := ⟨rfl, rfl, rfl, by decide +kernel, rfl, by decide +kernel, by decide +kernel⟩
abbrev Ok_Office_entry (P : Program) (w : World) (K : PySem.W.Frag) (mg : Str → Option Value) (base : Heap) : Prop := Has P w K mg base CX0 2 (fOffice_entry K) ["self", "thing"] (spOffEntry K)
theorem ok_Office_entry {P : Program} {w : World} {K : PySem.W.Frag} {mg : Str → Option Value} {base : Heap} (T : Txt K mg) (h_Book_entry : Ok_Book_entry P w K mg base) (h_Entry_told : Ok_Entry_told P w K mg base) : Ok_Office_entry P w K mg base := by
  obtain ⟨fd, F⟩ := T.dOffice_entry
  obtain ⟨fd_Book_entry, G_Book_entry, b_Book_entry⟩ := h_Book_entry
  obtain ⟨fd_Entry_told, G_Entry_told, b_Entry_told⟩ := h_Entry_told
  refine ⟨fd, FunD.ok (CX := CX0) F sc_Office_entry (fun vs H Q E h => ?_) (fun cdv A outer s H vs Q E hr h => ?_), FunD.bindsN F fun _ _ _ _ _ _ us hl => match us, hl with | [_, _], _ => rfl⟩
  · obtain ⟨L, S, t, rfl, _⟩ := h
    rfl
  · have hu := hu_of hr
    refine ⟨_, PSs.nox (pss_cons (ps_set (i := 2) sc_Office_entry.nd rfl (Or.inl rfl) (pe_meth (pe_fld (pv 0) rfl) T.cl_Book T.m_Book_entry G_Book_entry (hr.mono (by decide)) b_Book_entry .nil pass0 (pa_cons (pv 1) pa_nil)))
      (pss_cons (ps_if (pt_cmpR op_isN (pv 2) pe_non (nomark _)) (pss_one (ps_ret pe_non)) pss_nil)
      (pss_one (ps_ret (pe_meth0 (pv 2) T.cl_Entry T.m_Entry_told G_Entry_told (hr.mono (by decide)) b_Entry_told .nil pass0))))), ?_⟩
    obtain ⟨L, S, t, rfl, O, k1, k2⟩ := h
    obtain ⟨do_, hof⟩ := O.of
    obtain ⟨db, hb⟩ := O.bk
    refine ⟨_, rfl, rd_Office_book T hof ⟨L.bk, db, _, rfl, hb, ln_Book_entry _ _ _ _ _, _, rfl, L, S, t, rfl, O, ?_⟩⟩
    cases ht : S.get t with
    | none =>
      rw [entV_none ht]
      exact ⟨_, rfl, rfl, true, rfl, iteT (k1 ht)⟩
    | some e =>
      rw [entV_some ht]
      obtain ⟨de, he⟩ := O.ent t e (gt_mem ht)
      refine ⟨_, rfl, rfl, false, congrArg V.bl dnon_ref, iteF ?_⟩
      exact ⟨_, rfl, L.ea t, de, _, rfl, he, ln_Entry_told _ _ _, L.ea t, de, L.ca t, t, e, rfl, he, fun r hr => k2 e ht r hr⟩
def spOffKnown (K : PySem.W.Frag) : Sp := fun vs H Q _ => ∃ (L : Lay) (S : OSt), vs = [.ref L.of] ∧ OffAt K H L S ∧ ∀ r, H r = none → Q (.ref r) (upd H r (.lst (S.es.map fun p => V.str p.1)))
theorem sc_Office_known : FnScope ["self"] ["self"] (defScope sOffice_known) := ⟨rfl, rfl, rfl, by decide +kernel, rfl, by decide +kernel, by decide +kernel⟩
abbrev Ok_Office_known (P : Program) (w : World) (K : PySem.W.Frag) (mg : Str → Option Value) (base : Heap) : Prop := Has P w K mg base CX0 1 (fOffice_known K) ["self"] (spOffKnown K)
theorem ok_Office_known {P : Program} {w : World} {K : PySem.W.Frag} {mg : Str → Option Value} {base : Heap} (T : Txt K mg) : Ok_Office_known P w K mg base := by
  obtain ⟨fd, F⟩ := T.dOffice_known
  refine ⟨fd, FunD.ok (CX := CX0) F sc_Office_known (fun vs H Q E h => ?_) (fun cdv A outer s H vs Q E hr h => ?_), FunD.bindsN F fun _ _ _ _ _ _ us hl => match us, hl with | [_], _ => rfl⟩
  · obtain ⟨L, S, rfl, _⟩ := h
    rfl
  · have hu := hu_of hr
    refine ⟨_, PSs.nox (pss_one (ps_ret (pe_callTy (call_list_dK rfl) (by rfl) T.b_list (by decide +kernel) (pa_cons (pe_fld (pe_fld (pv 0) rfl) rfl) pa_nil)))), ?_⟩
    obtain ⟨L, S, rfl, O, k⟩ := h
    obtain ⟨do_, hof⟩ := O.of
    obtain ⟨db, hb⟩ := O.bk
    refine ⟨_, rfl, rd_Office_book T hof (rd_Book_entries T hb ⟨L.en, _, rfl, O.en, fun r hr => ?_⟩)⟩
    have e : (entKV L S.es).map (fun kv => kV kv.1) = S.es.map fun p => V.str p.1 := by
      unfold entKV
      rw [List.map_map]
      rfl
    rw [e]
    exact k r hr
def spOffHeld (K : PySem.W.Frag) : Sp := fun vs H Q _ => ∃ (L : Lay) (S : OSt), vs = [.ref L.of] ∧ OffAt K H L S ∧ S.es.length ≤ 1000000 ∧ ∀ r H', Same H H' → H r = none → H' r = some (.lst ((S.es.filter fun p => decide (p.2.st = .held)).map fun p => V.str p.1)) → Q (.ref r) H'
theorem sc_Office_held : FnScope ["self", "thing"] ["self"] (defScope sOffice_held) := ⟨rfl, rfl, rfl, by decide +kernel, rfl, by decide +kernel, by decide +kernel⟩
abbrev Ok_Office_held (P : Program) (w : World) (K : PySem.W.Frag) (mg : Str → Option Value) (base : Heap) : Prop := Has P w K mg base CX0 2 (fOffice_held K) ["self"] (spOffHeld K)
theorem ok_Office_held {P : Program} {w : World} {K : PySem.W.Frag} {mg : Str → Option Value} {base : Heap} (T : Txt K mg) (h_Office_known : Ok_Office_known P w K mg base) : Ok_Office_held P w K mg base := by
  obtain ⟨fd, F⟩ := T.dOffice_held
  obtain ⟨fd_Office_known, G_Office_known, b_Office_known⟩ := h_Office_known
  refine ⟨fd, FunD.ok (CX := CX0) F sc_Office_held (fun vs H Q E h => ?_) (fun cdv A outer s H vs Q E hr h => ?_), FunD.bindsN F fun _ _ _ _ _ _ us hl => match us, hl with | [_], _ => rfl⟩
  · obtain ⟨L, S, rfl, _⟩ := h
    rfl
  · have hu := hu_of hr
    refine ⟨_, PSs.nox (pss_one (ps_ret (pe_lc (own := [("thing", 1)]) (g := gName 1) (by rfl) sc_Office_held.nd (pi_list (pe_meth0 (pv 0) T.cl_Office T.m_Office_known G_Office_known (hr.mono (by decide)) b_Office_known .nil pass0)) (blkOk_by (own := [("thing", 1)]) (N := ["self", "thing"]) (sc := defScope sOffice_held) (by decide +kernel)) (fun _ _ _ _ _ => (pg_name (i := 1) sc_Office_held.nd rfl (Or.inl rfl))) (fun _ _ _ _ _ => (by exact (pts_one (pt_cmpR op_eq (pe_fldB (K := K) rfl (pe_dget hu (pe_fldB (K := K) rfl (pe_fldB (K := K) rfl (pv 0) rfl) rfl) (pv 1) (fun _ _ => rfl)) rfl) pe_str (nomark _))))) (fun _ _ _ _ _ => (by exact (pv 1)))))), ?_⟩
    obtain ⟨L, S, rfl, O, hz, k⟩ := h
    obtain ⟨do_, hof⟩ := O.of
    refine ⟨_, rfl, L.of, do_, _, rfl, hof, ln_Office_known _ _ _, L, S, rfl, O, fun r hr => ?_⟩
    have s1 : Same H (upd H r (.lst (S.es.map fun p => V.str p.1))) := Same.upd hr
    have hr1 := upd_same (H := H) (a := r) (o := HO.lst (S.es.map fun p => V.str p.1))
    generalize hH1 : upd H r (.lst (S.es.map fun p => V.str p.1)) = H1 at s1 hr1 ⊢
    refine ⟨r, rfl, ⟨_, SqL.of hr1⟩, fun D hD => lc_list (K := K) (a := r) (xs := S.es.map fun p => V.str p.1) (fun i H' => H' = upd H1 D (.lst (((S.es.take i).filter fun p => decide (p.2.st = .held)).map fun p => V.str p.1))) rfl (fun i H' _ hh => ?_) (fun i x H' hx hh => ?_) (fun H' hh => ?_)⟩
    · subst hh
      exact SqL.of ((upd_ne (ne_of_none hr1 hD)).trans hr1)
    · subst hh
      obtain ⟨⟨t, e⟩, hp, rfl⟩ : ∃ p, S.es[i]? = some p ∧ x = V.str p.1 := by
        rw [List.getElem?_map] at hx
        cases e : S.es[i]? with
        | none =>
          rw [e] at hx
          cases hx
        | some p =>
          rw [e] at hx
          exact ⟨p, rfl, (Option.some.inj hx).symm⟩
      have s2 := Same.upd (H := H1) (o := HO.lst (((S.es.take i).filter fun p => decide (p.2.st = .held)).map fun p => V.str p.1)) hD
      have O2 := (O.same s1).same s2
      obtain ⟨d2, hof2⟩ := O2.of
      obtain ⟨b2, hb2⟩ := O2.bk
      have hm : (t, e) ∈ S.es := List.mem_of_getElem? hp
      have hg : S.get t = some e := mem_gt O.nd hm
      obtain ⟨de, he⟩ := O2.ent t e hm
      have tk := take_snoc hp
      refine ⟨rfl, _, rfl, rd_Office_book T hof2 (rd_Book_entries T hb2 ⟨_, rfl, L.en, _, rfl, dget_some O2.en hg, rd_Entry_state T he ⟨rfl, _, rfl, ?_⟩⟩)⟩
      rw [stq_held]
      rw [tk, List.filter_append, List.map_append]
      by_cases c : e.st = .held
      · refine ifT (decide_eq_true c) ⟨_, rfl, _, upd_same, ?_, ?_⟩
        · rw [List.length_map]
          have := List.length_filter_le (fun p : Str × Ent => decide (p.2.st = .held)) (S.es.take i)
          rw [List.length_take] at this
          refine Nat.lt_of_le_of_lt (show _ ≤ 1000000 by omega) ?_
          rw [sizeLine_eq]
          decide
        · rw [upd_upd]
          have e1 : ([(t, e)] : List (Str × Ent)).filter (fun p => decide (p.2.st = .held)) = [(t, e)] := by
            simp [c]
          rw [e1]
          rfl
      · refine ifF (decide_eq_false c) ?_
        have e1 : ([(t, e)] : List (Str × Ent)).filter (fun p => decide (p.2.st = .held)) = [] := by
          simp [c]
        rw [e1, List.map_nil, List.append_nil]
    · subst hh
      rw [List.length_map, List.take_length]
      have hDH : H D = none := by
        cases e : H D with
        | none => rfl
        | some o =>
          rw [s1 _ _ e] at hD
          cases hD
      exact k D _ (fun b o e => Same.upd hD b o (s1 b o e)) hDH upd_same
def payR (S : OSt) : List (List V) := S.ps.map fun p => [.str p.1, .str p.2.1, .int p.2.2]
def spOffPay (K : PySem.W.Frag) : Sp := fun vs H Q _ => ∃ (L : Lay) (S : OSt), vs = [.ref L.of] ∧ OffAt K H L S ∧ S.ps.length ≤ 1000000 ∧ ∀ r H' ys, Same H H' → H r = none → H' r = some (.lst ys) → Tups H' ys (payR S) → Q (.ref r) H'
theorem sc_Office_payments : FnScope ["self", "thing", "paid"] ["self"] (defScope sOffice_payments) := ⟨rfl, rfl, rfl, by decide +kernel, rfl, by decide +kernel, by decide +kernel⟩
abbrev Ok_Office_payments (P : Program) (w : World) (K : PySem.W.Frag) (mg : Str → Option Value) (base : Heap) : Prop := Has P w K mg base CX0 1 (fOffice_payments K) ["self"] (spOffPay K)
theorem ok_Office_payments {P : Program} {w : World} {K : PySem.W.Frag} {mg : Str → Option Value} {base : Heap} (T : Txt K mg) : Ok_Office_payments P w K mg base := by
  obtain ⟨fd, F⟩ := T.dOffice_payments
  refine ⟨fd, FunD.ok (CX := CX0) F sc_Office_payments (fun vs H Q E h => ?_) (fun cdv A outer s H vs Q E hr h => ?_), FunD.bindsN F fun _ _ _ _ _ _ us hl => match us, hl with | [_], _ => rfl⟩
  · obtain ⟨L, S, rfl, _⟩ := h
    rfl
  · have hu := hu_of hr
    refine ⟨_, PSs.nox (pss_one (ps_ret (pe_lock (pe_lc (own := [("thing", 1), ("paid", 2)]) (tt := tYes) (by rfl) sc_Office_payments.nd (pi_items (pe_fld (pe_fld (pv 0) rfl) rfl)) (blkOk_by (own := [("thing", 1), ("paid", 2)]) (N := ["self", "thing", "paid"]) (sc := defScope sOffice_payments) (by decide +kernel)) (fun _ _ _ _ _ => (pg_tupB (K := K) (n := 2) rfl rfl (pgs_cons (pg_name (i := 1) sc_Office_payments.nd rfl (Or.inl rfl)) (pgs_cons (pg_name (i := 2) sc_Office_payments.nd rfl (Or.inl rfl)) pgs_nil)))) (fun _ _ _ _ _ => pts_nil) (fun _ _ _ _ _ => (by exact (pe_tup (by exact (pa_cons (pv 1) (pa_cons (pe_ix (ix_tupB (K := K) rfl) (pv 2) pe_int (fun _ _ => rfl)) (pa_cons (pe_ix (ix_tupB (K := K) rfl) (pv 2) pe_int (fun _ _ => rfl)) pa_nil))))))))))), ?_⟩
    obtain ⟨L, S, rfl, O, hz, k⟩ := h
    obtain ⟨do_, hof⟩ := O.of
    obtain ⟨db, hb⟩ := O.bk
    obtain ⟨pt, hp, hpt⟩ := O.pa
    refine ⟨L.pa, _, hp, trivial, fun od => ?_⟩
    have n1 : L.of ≠ L.pa := ne_of hof hp (by intro z; cases z)
    have n2 : L.bk ≠ L.pa := ne_of hb hp (by intro z; cases z)
    refine ⟨_, rfl, rd_Office_book T ((upd_ne n1).trans hof) (rd_Book_payments T ((upd_ne n2).trans hb) ⟨L.pa, od, _, rfl, upd_same, fun D hD => ?_⟩)⟩
    have hpt1 : ∀ p ∈ S.ps, upd H L.pa (.frz od (.dK (payKV pt S.ps))) (pt p.1) = some (.tup [.str p.2.1, .int p.2.2]) := fun p m => by
      have q := hpt p m
      rw [upd_ne (ne_of q hp (by intro z; cases z))]
      exact q
    have hpa1 := upd_same (H := H) (a := L.pa) (o := .frz od (.dK (payKV pt S.ps)))
    have fin : ∀ H', Same (upd H L.pa (.frz od (.dK (payKV pt S.ps)))) H' → Same H (upd H' L.pa (.dK (payKV pt S.ps))) := fun H' sm b u e => by
      by_cases z : b = L.pa
      · rw [z] at e ⊢
        rw [upd_same, ← e, hp]
      · rw [upd_ne z]
        exact sm b u ((upd_ne z).trans e)
    have hDn : H D = none := by
      cases e : H D with
      | none => rfl
      | some u =>
        have z : D ≠ L.pa := fun z => by
          rw [z, hpa1] at hD
          cases hD
        rw [upd_ne z, e] at hD
        cases hD
    generalize hH1 : upd H L.pa (.frz od (.dK (payKV pt S.ps))) = H1 at hpt1 hpa1 hD fin ⊢
    have plen : (payKV pt S.ps).length = S.ps.length := by
      unfold payKV
      rw [List.length_map]
    refine lc_it walk_items (fun i H' => ∃ ys, Same H1 H' ∧ H' D = some (.lst ys) ∧ Tups H' ys ((payR S).take i)) ⟨[], Same.upd hD, upd_same, trivial⟩ (fun i H' hi hh => ?_) (fun i x H' H2 hi hh hy => ?_) (fun H' hh => ?_)
    · obtain ⟨ys, sm, _⟩ := hh
      exact sm _ _ hpa1
    · obtain ⟨ys, sm, hD1, tp⟩ := hh
      obtain ⟨A, x1, x2, rfl, hA, rfl, e1, e2⟩ := hy
      obtain ⟨⟨t, o, q⟩, hpi⟩ : ∃ p, S.ps[i]? = some p := by
        cases e : S.ps[i]? with
        | none =>
          have := List.getElem?_eq_none_iff.mp e
          omega
        | some p => exact ⟨p, rfl⟩
      have hpi2 : (payKV pt S.ps)[i]? = some (Sum.inr t, .ref (pt t)) := by
        unfold payKV
        rw [List.getElem?_map, hpi]
        rfl
      have e1 : (payKV pt S.ps)[i]?.map (fun kv => kV kv.1) = some x1 := e1
      have e2 : (payKV pt S.ps)[i]?.map Prod.snd = some x2 := e2
      rw [hpi2] at e1 e2
      cases e1
      cases e2
      have hm := List.mem_of_getElem? hpi
      have s2 := Same.upd (H := H') (o := HO.tup [kV (Sum.inr t), V.ref (pt t)]) hA
      have hA2 := upd_same (H := H') (a := A) (o := HO.tup [kV (Sum.inr t), V.ref (pt t)])
      have hD2 := s2 _ _ hD1
      have tp2 := tp.same s2
      have sm2 : Same H1 (upd H' A (HO.tup [kV (Sum.inr t), V.ref (pt t)])) := fun b u e => s2 _ _ (sm _ _ e)
      generalize hH2 : upd H' A (HO.tup [kV (Sum.inr t), V.ref (pt t)]) = H2 at s2 hA2 hD2 tp2 sm2 ⊢
      have hq2 := sm2 _ _ (hpt1 _ hm)
      refine ⟨A, _, rfl, SqT.of hA2, rfl, _, _, rfl, _, _, rfl, rfl, ?_⟩
      refine ⟨rfl, _, rfl, ?_⟩
      refine ⟨_, rfl, ixT T hq2 (.str o) ⟨_, rfl, ixT T hq2 (.int q) ⟨line16 (by show 3 ≤ 16000000; decide), fun B hB => ?_⟩⟩⟩
      have s3 := Same.upd (H := H2) (o := HO.tup [V.str t, V.str o, V.int q]) hB
      have hB3 := upd_same (H := H2) (a := B) (o := HO.tup [V.str t, V.str o, V.int q])
      have hD3 := s3 _ _ hD2
      have tp3 := tp2.same s3
      have hylen : ys.length = min i S.ps.length := by
        rw [tp.len, List.length_take]
        unfold payR
        rw [List.length_map]
      have hil := (List.getElem?_eq_some_iff.mp hpi).1
      refine ⟨ys, hD3, ?_, ys ++ [.ref B], fun b u e => ?_, upd_same, ?_⟩
      · refine Nat.lt_of_le_of_lt (show _ ≤ 1000000 by omega) ?_
        rw [sizeLine_eq]
        decide
      · rw [upd_ne (ne_of_none e hD)]
        exact s3 _ _ (sm2 _ _ e)
      · have e3 : (payR S)[i]? = some [V.str t, V.str o, V.int q] := by
          unfold payR
          rw [List.getElem?_map, hpi]
          rfl
        rw [take_snoc e3]
        refine (tp3.snoc hB3).mono fun a r e => ?_
        rw [upd_ne (ne_of e hD3 (by intro z; cases z))]
        exact e
    · obtain ⟨ys, sm, hD1, tp⟩ := hh
      have e1 : (payR S).take (payKV pt S.ps).length = payR S := by
        have : (payR S).length = S.ps.length := by
          unfold payR
          rw [List.length_map]
        rw [plen, ← this, List.take_length]
      rw [e1] at tp
      have hpa2 := sm _ _ hpa1
      refine ⟨hpa2, k D _ ys (fin H' sm) hDn ?_ (tp.mono fun a r e => ?_)⟩
      · rw [upd_ne (ne_of hD1 hpa2 (by intro z; cases z))]
        exact hD1
      · rw [upd_ne (ne_of e hpa2 (by intro z; cases z))]
        exact e
def spOffCredit (K : PySem.W.Frag) : Sp := fun vs H Q _ => ∃ (L : Lay) (S : OSt), vs = [.ref L.of] ∧ OffAt K H L S ∧ Q (.int S.cr) H
theorem sc_Office_credit : FnScope ["self"] ["self"] (defScope sOffice_credit) := ⟨rfl, rfl, rfl, by decide +kernel, rfl, by decide +kernel, by decide +kernel⟩
abbrev Ok_Office_credit (P : Program) (w : World) (K : PySem.W.Frag) (mg : Str → Option Value) (base : Heap) : Prop := Has P w K mg base CX0 1 (fOffice_credit K) ["self"] (spOffCredit K)
theorem ok_Office_credit {P : Program} {w : World} {K : PySem.W.Frag} {mg : Str → Option Value} {base : Heap} (T : Txt K mg) : Ok_Office_credit P w K mg base := by
  obtain ⟨fd, F⟩ := T.dOffice_credit
  refine ⟨fd, FunD.ok (CX := CX0) F sc_Office_credit (fun vs H Q E h => ?_) (fun cdv A outer s H vs Q E hr h => ?_), FunD.bindsN F fun _ _ _ _ _ _ us hl => match us, hl with | [_], _ => rfl⟩
  · obtain ⟨L, S, rfl, _⟩ := h
    rfl
  · have hu := hu_of hr
    refine ⟨_, PSs.nox (pss_one (ps_ret (pe_fld (pe_fld (pv 0) rfl) rfl))), ?_⟩
    obtain ⟨L, S, rfl, O, k⟩ := h
    obtain ⟨do_, hof⟩ := O.of
    obtain ⟨db, hb⟩ := O.bk
    exact ⟨_, rfl, rd_Office_book T hof (rd_Book_credit T hb k)⟩
end LH
namespace LH
open PySem PySem.Spec PyProof.Rows L2
/-! ### offices: writing, the letters that wait -/
def OSt.lnup (S : OSt) : OSt := { S with ln := S.ln + 1 }
/-- the program's errors -/
def HeldC (K : PySem.W.Frag) (C : Addr) : Prop := C = xNotHeld K ∨ C = xFrozen K ∨ C = xUnknownThing K ∨ C = xInvalidQuantity K ∨ C = xInvalidOffice K ∨ C = xInvalidThings K ∨ C = xNoLetter K
def Errs (K : PySem.W.Frag) (H : Hp) (E : XK) : Prop := ∀ C H', HeldC K C → Same H H' → E (.ref C) none H'
theorem Errs.same {K : PySem.W.Frag} {H H' : Hp} {E : XK} (h : Errs K H E) (s : Same H H') : Errs K H' E := fun C H2 hc s2 => h C H2 hc fun b o e => s2 b o (s b o e)
theorem Same.rfl' {H : Hp} : Same H H := fun _ _ h => h
theorem Same.tr {H H1 H2 : Hp} (a : Same H H1) (b : Same H1 H2) : Same H H2 := fun c o h => b c o (a c o h)
theorem Same.none {H H' : Hp} (s : Same H H') {b : Addr} (h : H' b = none) : H b = none := by
  cases e : H b with
  | none => rfl
  | some o =>
    rw [s b o e] at h
    cases h
theorem lt_line {n : Nat} (h : n ≤ 16000000) : n < sizeLine := by
  rw [sizeLine_eq]
  omega
def wfE (e : Ent) : Prop := (e.st ≠ .unk → ∃ h, e.home = some h) ∧ (e.st = .given → ∃ r, e.rcv = some r)
/-! writing -/
def spWrite (K : PySem.W.Frag) : Sp := fun vs H Q _ => ∃ (L : Lay) (S : OSt) (a : Addr) (ln : Line), vs = [.ref L.of, .ref a] ∧ OffAt K H L S ∧ H a = some (.tup ln.enc) ∧ Fit S ln ∧ S.es.length ≤ 900000 ∧ S.ln ≤ 10000000 ∧ (∀ v ∈ ln.enc, Wd v) ∧ ln.enc.length ≤ 1000 ∧
  ∀ H' L' S', App S.lnup ln S' → Stp K H L S H' L' S' → Q .non H'
theorem Fit.up {S : OSt} {ln : Line} (h : Fit S ln) : Fit S.lnup ln := by cases ln <;> exact h
theorem sc_Office_write : FnScope ["self", "line"] ["self", "line"] (defScope sOffice_write) := ⟨rfl, rfl, rfl, by decide +kernel, rfl, by decide +kernel, by decide +kernel⟩
abbrev Ok_Office_write (P : Program) (w : World) (K : PySem.W.Frag) (mg : Str → Option Value) (base : Heap) : Prop := Has P w K mg base CX0 6 (fOffice_write K) ["self", "line"] (spWrite K)
theorem ok_Office_write {P : Program} {w : World} {K : PySem.W.Frag} {mg : Str → Option Value} {base : Heap} (T : Txt K mg) (h_format_line : Ok_format_line P w K mg base) (h_Book_apply : Ok_Book_apply P w K mg base) : Ok_Office_write P w K mg base := by
  obtain ⟨fd, F⟩ := T.dOffice_write
  obtain ⟨fd_format_line, G_format_line, b_format_line⟩ := h_format_line
  have k_format_line : PySem.W.keepIn K (.ref (f_format_line K)) = true := by
    obtain ⟨_, q⟩ := T.d_format_line
    exact q.kp
  obtain ⟨fd_Book_apply, G_Book_apply, b_Book_apply⟩ := h_Book_apply
  refine ⟨fd, FunD.ok (CX := CX0) F sc_Office_write (fun vs H Q E h => ?_) (fun cdv A outer s H vs Q E hr h => ?_), FunD.bindsN F fun _ _ _ _ _ _ us hl => match us, hl with | [_, _], _ => rfl⟩
  · obtain ⟨L, S, a, ln, rfl, _⟩ := h
    rfl
  · have hu := hu_of hr
    refine ⟨_, PSs.nox (pss_cons (ps_expr (pe_bm PySem.F.plainAttrs_list PySem.F.slot_list_append PySem.F.type_list_append mt_append (pe_fld (pv 0) rfl) (pa_cons (pe_call G_format_line (hr.mono (by decide)) rfl T.g_format_line k_format_line b_format_line .nil pass0 (pa_cons (pv 1) pa_nil)) pa_nil)))
      (pss_one (ps_expr (pe_meth (pe_fld (pv 0) rfl) T.cl_Book T.m_Book_apply G_Book_apply (hr.mono (by decide)) b_Book_apply .nil pass0 (pa_cons (pv 1) pa_nil))))), ?_⟩
    obtain ⟨L, S, a, ln, rfl, O, ha, hf, hz, hn, hw, hl, k⟩ := h
    obtain ⟨do_, hof⟩ := O.of
    obtain ⟨ls, hls, hln⟩ := O.ln
    refine ⟨_, rfl, rd_Office_lines T hof ⟨.inl ⟨rfl, _, SqL.of hln⟩, _, rfl, a, ln.enc, rfl, ha, hl, hw, fun H1 sm z => ?_⟩⟩
    refine ⟨L.ln, ls, _, rfl, rfl, sm _ _ hln, lt_line (by omega), ?_⟩
    have O1 := O.same sm
    have st := (Stp.same O sm).trans (stp_line O1 (.str z) (sm _ _ hln) hls)
    have ha1 := st.fr.tup O ha
    generalize hH2 : upd H1 L.ln (.lst (ls ++ [V.str z])) = H2 at st ha1 ⊢
    have O2 := st.at_
    obtain ⟨d2, hof2⟩ := O2.of
    obtain ⟨b2, hb2⟩ := O2.bk
    exact ⟨_, rfl, rd_Office_book T hof2 ⟨L.bk, b2, _, rfl, hb2, ln_Book_apply _ _ _ _ _, _, rfl, L, S.lnup, a, ln, rfl, O2, ha1, hf.up, hz, fun H' L' S' ap s2 => k H' L' S' ap (st.trans s2)⟩⟩
def Noted (S : OSt) (ln : Line) (S' : OSt) : Prop := if fitB S ln = true then App S.lnup ln S' else S' = S
def spNote (K : PySem.W.Frag) : Sp := fun vs H Q _ => ∃ (L : Lay) (S : OSt) (a : Addr) (ln : Line), vs = [.ref L.of, .ref a] ∧ OffAt K H L S ∧ H a = some (.tup ln.enc) ∧ ln.note ∧ S.name.length ≤ 100 ∧ (fitB S ln = true → Fit S ln) ∧ S.es.length ≤ 900000 ∧ S.ln ≤ 10000000 ∧ (∀ v ∈ ln.enc, Wd v) ∧ ln.enc.length ≤ 1000 ∧
  ∀ H' L' S', Noted S ln S' → Stp K H L S H' L' S' → Q .non H'
theorem sc_Office_note : FnScope ["self", "line"] ["self", "line"] (defScope sOffice_note) := ⟨rfl, rfl, rfl, by decide +kernel, rfl, by decide +kernel, by decide +kernel⟩
abbrev Ok_Office_note (P : Program) (w : World) (K : PySem.W.Frag) (mg : Str → Option Value) (base : Heap) : Prop := Has P w K mg base CX0 7 (fOffice_note K) ["self", "line"] (spNote K)
theorem ok_Office_note {P : Program} {w : World} {K : PySem.W.Frag} {mg : Str → Option Value} {base : Heap} (T : Txt K mg) (h_Book_fits : Ok_Book_fits P w K mg base) (h_Office_write : Ok_Office_write P w K mg base) : Ok_Office_note P w K mg base := by
  obtain ⟨fd, F⟩ := T.dOffice_note
  obtain ⟨fd_Book_fits, G_Book_fits, b_Book_fits⟩ := h_Book_fits
  obtain ⟨fd_Office_write, G_Office_write, b_Office_write⟩ := h_Office_write
  refine ⟨fd, FunD.ok (CX := CX0) F sc_Office_note (fun vs H Q E h => ?_) (fun cdv A outer s H vs Q E hr h => ?_), FunD.bindsN F fun _ _ _ _ _ _ us hl => match us, hl with | [_, _], _ => rfl⟩
  · obtain ⟨L, S, a, ln, rfl, _⟩ := h
    rfl
  · have hu := hu_of hr
    refine ⟨_, PSs.nox (pss_one (ps_if (pt_val (pe_meth (pe_fld (pv 0) rfl) T.cl_Book T.m_Book_fits G_Book_fits (hr.mono (by decide)) b_Book_fits .nil pass0 (pa_cons (pv 1) pa_nil))) (pss_one (ps_expr (pe_meth (pv 0) T.cl_Office T.m_Office_write G_Office_write (hr.mono (by decide)) b_Office_write .nil pass0 (pa_cons (pv 1) pa_nil)))) pss_nil)), ?_⟩
    obtain ⟨L, S, a, ln, rfl, O, ha, hnt, hnm, hf, hz, hn, hw, hl, k⟩ := h
    obtain ⟨do_, hof⟩ := O.of
    obtain ⟨b2, hb2⟩ := O.bk
    refine ⟨_, rfl, rd_Office_book T hof ⟨L.bk, b2, _, rfl, hb2, ln_Book_fits _ _ _ _ _, _, rfl, L, S, a, ln, rfl, O, ha, hnt, hnm, _, rfl, ?_⟩⟩
    cases c : fitB S ln with
    | true => exact ifT rfl ⟨_, rfl, L.of, do_, _, rfl, hof, ln_Office_write _ _ _, _, rfl, L, S, a, ln, rfl, O, ha, hf c, hz, hn, hw, hl, fun H' L' S' ap st => k H' L' S' ((if_pos c).mpr ap) st⟩
    | false => exact ifF rfl (k H L S ((if_neg (by rw [c]; decide)).mpr rfl) (Stp.refl O))
def spFree (K : PySem.W.Frag) : Sp := fun vs H Q E => ∃ (L : Lay) (S : OSt) (t : Str), vs = [.ref L.of, .str t] ∧ OffAt K H L S ∧ (∀ e, S.get t = some e → e.st = .held → e.cb = false → Q (.ref (L.ea t)) H) ∧ Errs K H E
theorem sc_Office_free : FnScope ["self", "thing", "found"] ["self", "thing"] (defScope sOffice_free) := ⟨rfl, rfl, rfl, by decide +kernel, rfl, by decide +kernel, by decide +kernel⟩
abbrev Ok_Office_free (P : Program) (w : World) (K : PySem.W.Frag) (mg : Str → Option Value) (base : Heap) : Prop := Has P w K mg base (L2.CX P w) 2 (fOffice_free K) ["self", "thing"] (spFree K)
theorem ok_Office_free {P : Program} {w : World} {K : PySem.W.Frag} {mg : Str → Option Value} {base : Heap} (T : Txt K mg) (h_Book_entry : Ok_Book_entry P w K mg base) : Ok_Office_free P w K mg base := by
  obtain ⟨fd, F⟩ := T.dOffice_free
  obtain ⟨fd_Book_entry, G_Book_entry, b_Book_entry⟩ := h_Book_entry
  refine ⟨fd, FunD.ok (CX := (L2.CX P w)) F sc_Office_free (fun vs H Q E h => ?_) (fun cdv A outer s H vs Q E hr h => ?_), FunD.bindsN F fun _ _ _ _ _ _ us hl => match us, hl with | [_, _], _ => rfl⟩
  · obtain ⟨L, S, t, rfl, _⟩ := h
    rfl
  · have hu := hu_of hr
    refine ⟨_, (pss_cons (ps_set (i := 2) sc_Office_free.nd rfl (Or.inl rfl) (pe_meth (pe_fld (pv 0) rfl) T.cl_Book T.m_Book_entry G_Book_entry (hr.mono (by decide)) b_Book_entry .nil pass0 (pa_cons (pv 1) pa_nil)))
      (pss_cons (ps_if (PW.pt (pw_or (pt_cmpR op_isN (pv 2) pe_non (nomark _)) (pw_or1 (pt_cmpR op_ne (pe_fld (pv 2) rfl) pe_str (nomark _))))) (pss_one (ps_raise rfl (takes_of rfl rfl rfl rfl) (SkE.pmk_own1 PySem.F.excBase_ValueError T.x_NotHeld.1 T.g_NotHeld T.x_NotHeld.2.1 (raises_own T.x_NotHeld.2.2.1 T.x_NotHeld.2.2.2) (by exact rfl) (pv 1)))) pss_nil)
      (pss_cons (ps_if (pt_val (pe_fld (pv 2) rfl)) (pss_one (ps_raise rfl (takes_of rfl rfl rfl rfl) (SkE.pmk_own1 PySem.F.excBase_ValueError T.x_Frozen.1 T.g_Frozen T.x_Frozen.2.1 (raises_own T.x_Frozen.2.2.1 T.x_Frozen.2.2.2) (by exact rfl) (pv 1)))) pss_nil)
      (pss_one (ps_ret (pv 2)))))), ?_⟩
    obtain ⟨L, S, t, rfl, O, k, kE⟩ := h
    obtain ⟨do_, hof⟩ := O.of
    obtain ⟨b2, hb2⟩ := O.bk
    refine ⟨_, rfl, rd_Office_book T hof ⟨L.bk, b2, _, rfl, hb2, ln_Book_entry _ _ _ _ _, _, rfl, L, S, t, rfl, O, ?_⟩⟩
    cases ht : S.get t with
    | none =>
      rw [entV_none ht]
      exact ⟨_, rfl, rfl, true, rfl, iteT (iteT ⟨_, rfl, kE _ _ (.inl rfl) Same.rfl'⟩)⟩
    | some e =>
      rw [entV_some ht]
      obtain ⟨de, he⟩ := O.ent t e (gt_mem ht)
      refine ⟨_, rfl, rfl, false, congrArg V.bl dnon_ref, iteF ⟨_, rfl, rd_Entry_state T he ⟨rfl, _, rfl, ?_⟩⟩⟩
      rw [stq_held]
      by_cases c : e.st = .held
      · refine ifF (by rw [decide_eq_true c]; rfl) ⟨_, rfl, rd_Entry_is_recalled T he ⟨_, rfl, ?_⟩⟩
        cases c2 : e.cb with
        | true => exact ifT rfl ⟨_, rfl, kE _ _ (.inr (.inl rfl)) Same.rfl'⟩
        | false => exact ifF rfl ⟨_, rfl, k e ht c c2⟩
      · exact ifT (by rw [decide_eq_false c]; rfl) ⟨_, rfl, kE _ _ (.inl rfl) Same.rfl'⟩
def spLetters (K : PySem.W.Frag) : Sp := fun vs H Q _ => ∃ (L : Lay) (S : OSt) (t : Str) (e : Ent), vs = [.ref L.of, .ref (L.ea t)] ∧ OffAt K H L S ∧ S.get t = some e ∧ wfE e ∧
  ∀ r H' ys, Same H H' → H r = none → H' r = some (.lst ys) → Tups H' ys ((letOf S.name t e).map Ltr.enc) → Q (.ref r) H'
theorem sc_Office_letters_of : FnScope ["self", "found", "letters", "told"] ["self", "found"] (defScope sOffice_letters_of) := ⟨rfl, rfl, rfl, by decide +kernel, rfl, by decide +kernel, by decide +kernel⟩
abbrev Ok_Office_letters_of (P : Program) (w : World) (K : PySem.W.Frag) (mg : Str → Option Value) (base : Heap) : Prop := Has P w K mg base CX0 1 (fOffice_letters_of K) ["self", "found"] (spLetters K)
theorem ok_Office_letters_of {P : Program} {w : World} {K : PySem.W.Frag} {mg : Str → Option Value} {base : Heap} (T : Txt K mg) : Ok_Office_letters_of P w K mg base := by
  obtain ⟨fd, F⟩ := T.dOffice_letters_of
  refine ⟨fd, FunD.ok (CX := CX0) F sc_Office_letters_of (fun vs H Q E h => ?_) (fun cdv A outer s H vs Q E hr h => ?_), FunD.bindsN F fun _ _ _ _ _ _ us hl => match us, hl with | [_, _], _ => rfl⟩
  · obtain ⟨L, S, t, e, rfl, _⟩ := h
    rfl
  · have hu := hu_of hr
    refine ⟨_, PSs.nox (pss_cons (ps_set (i := 2) sc_Office_letters_of.nd rfl (Or.inl rfl) (pe_lst pa_nil))
      (pss_cons (ps_if (pt_cmpR op_eq (pe_fld (pv 1) rfl) pe_str (nomark _)) (pss_cons (ps_if (pt_not (pt_val (pe_fld (pv 1) rfl))) (pss_cons (ps_set (i := 3) sc_Office_letters_of.nd rfl (Or.inl rfl) (pe_tup (pa_cons (pe_fld (pv 1) rfl) (pa_cons (pe_fld (pv 1) rfl) (pa_cons (pe_fld (pv 1) rfl) (pa_cons (pe_fld (pv 1) rfl) pa_nil))))))
      (pss_one (ps_expr (pe_bm PySem.F.plainAttrs_list PySem.F.slot_list_append PySem.F.type_list_append mt_append (pv 2) (pa_cons (pe_op op_catT (pe_tup (pa_cons pe_str (pa_cons (pe_fld (pv 0) rfl) (pa_cons (pe_fld (pv 1) rfl) pa_nil)))) (pv 3)) pa_nil))))) pss_nil)
      (pss_one (ps_if (PW.pt (pw_and (pt_val (pe_fld (pv 1) rfl)) (pw_and1 (pt_not (pt_val (pe_fld (pv 1) rfl)))))) (pss_one (ps_expr (pe_bm PySem.F.plainAttrs_list PySem.F.slot_list_append PySem.F.type_list_append mt_append (pv 2) (pa_cons (pe_tup (pa_cons pe_str (pa_cons (pe_fld (pv 0) rfl) (pa_cons (pe_fld (pv 1) rfl) (pa_cons (pe_fld (pv 1) rfl) pa_nil))))) pa_nil)))) pss_nil))) pss_nil)
      (pss_cons (ps_if (PW.pt (pw_and (pt_cmpR op_eq (pe_fld (pv 1) rfl) pe_str (nomark _)) (pw_and1 (pt_not (pt_val (pe_fld (pv 1) rfl)))))) (pss_one (ps_expr (pe_bm PySem.F.plainAttrs_list PySem.F.slot_list_append PySem.F.type_list_append mt_append (pv 2) (pa_cons (pe_tup (pa_cons pe_str (pa_cons (pe_fld (pv 0) rfl) (pa_cons (pe_fld (pv 1) rfl) (pa_cons (pe_fld (pv 1) rfl) (pa_cons (pe_fld (pv 1) rfl) pa_nil)))))) pa_nil)))) pss_nil)
      (pss_one (ps_ret (pv 2)))))), ?_⟩
    obtain ⟨L, S, t, e, rfl, O, ht, ⟨hh, hrc⟩, k⟩ := h
    refine ⟨Nat.zero_le _, fun r hr => ?_⟩
    have s1 := Same.upd (H := H) (o := HO.lst []) hr
    have hr1 := upd_same (H := H) (a := r) (o := HO.lst [])
    generalize hH1 : upd H r (.lst []) = H1 at s1 hr1 ⊢
    obtain ⟨do_, hof⟩ := (O.same s1).of
    obtain ⟨de, he⟩ := (O.same s1).ent t e (gt_mem ht)
    refine ⟨_, rfl, rd_Entry_state T he ⟨rfl, _, rfl, ?_⟩⟩
    rw [stq_given]
    by_cases c : e.st = .given
    rotate_left
    · refine ifF (decide_eq_false c) ?_
      refine ⟨_, rfl, rd_Entry_state T he ⟨rfl, ⟨_, rfl, ?_⟩⟩⟩
      rw [stq_used]
      by_cases c2 : e.st = .used
      rotate_left
      · have e1 : letOf S.name t e = [] := by
          unfold letOf
          rw [if_neg c, if_neg fun z => c2 z.1]
          rfl
        refine ifF (decide_eq_false c2) ⟨_, rfl, k r H1 [] s1 hr hr1 ?_⟩
        rw [e1]
        trivial
      · refine ifT (decide_eq_true c2) ?_
        refine ⟨_, rfl, rd_Entry_is_paid T he ⟨_, rfl, ?_⟩⟩
        cases c3 : e.pd with
        | true =>
          have e1 : letOf S.name t e = [] := by
            unfold letOf
            rw [if_neg c, if_neg fun z => (by rw [c3] at z; cases z.2)]
            rfl
          refine ifF rfl ⟨_, rfl, k r H1 [] s1 hr hr1 ?_⟩
          rw [e1]
          trivial
        | false =>
          obtain ⟨h, eh⟩ := hh (by rw [c2]; decide)
          have e1 : letOf S.name t e = [.claim S.name h t e.qty] := by
            unfold letOf
            rw [if_neg c, if_pos ⟨c2, c3⟩, eh]
            rfl
          have ho : optV e.home = .str h := by rw [eh]; rfl
          refine ifT rfl ⟨_, rfl, .inl ⟨rfl, _, SqL.of hr1⟩, ?_⟩
          refine ⟨_, rfl, rd_Office_name T hof ⟨_, rfl, rd_Entry_home T he ⟨_, rfl, rd_Entry_thing T he ⟨_, rfl, rd_Entry_quantity T he ⟨line16 (by show 5 ≤ 16000000; decide), fun p hp => ?_⟩⟩⟩⟩⟩
          rw [ho]
          have s2 := Same.upd (H := H1) (o := HO.tup [.str "claim", .str S.name, .str h, .str t, .int e.qty]) hp
          have hp2 := upd_same (H := H1) (a := p) (o := HO.tup [.str "claim", .str S.name, .str h, .str t, .int e.qty])
          refine ⟨r, [], _, rfl, rfl, s2 _ _ hr1, lt_line (by decide), ?_⟩
          have hrp : p ≠ r := fun z => by
            rw [z, hr1] at hp
            cases hp
          refine ⟨_, rfl, k r _ [.ref p] (fun b o e => ?_) hr upd_same ?_⟩
          · rw [upd_ne (ne_of_none e hr)]
            exact s2 _ _ (s1 _ _ e)
          · rw [e1]
            exact Tups.one ((upd_ne hrp).trans hp2)
    · refine ifT (decide_eq_true c) ?_
      obtain ⟨h, eh⟩ := hh (by rw [c]; decide)
      obtain ⟨rc, erc⟩ := hrc c
      have ho : optV e.home = .str h := by rw [eh]; rfl
      have hq : optV e.rcv = .str rc := by rw [erc]; rfl
      have nu : ¬ e.st = .used := by rw [c]; decide
      have enc : letOf S.name t e = (if e.rd = false then [.deed S.name rc t h e.qty e.ep] else []) ++ (if e.cb = true ∧ e.nt = false then [.notice S.name rc t] else []) := by
        unfold letOf
        rw [if_pos c, if_neg (show ¬ (e.st = .used ∧ e.pd = false) from fun z => nu z.1), List.append_nil, eh, erc]
        rfl
      refine ⟨_, rfl, rd_Entry_is_received T he ⟨_, rfl, ?_⟩⟩
      cases c1 : e.rd with
      | true =>
        refine ifF rfl ?_
        have epre : ([] : List (List V)) = (if e.rd = false then [Ltr.deed S.name rc t h e.qty e.ep] else []).map Ltr.enc := by
          rw [c1]
          rfl
        have tp : Tups H1 [] [] := trivial
        obtain ⟨ys, hys, hyl⟩ : ∃ ys : List V, ys = [] ∧ ys.length ≤ 1 := ⟨_, rfl, Nat.zero_le _⟩
        obtain ⟨pre, hpre⟩ : ∃ pre : List (List V), pre = [] := ⟨_, rfl⟩
        rw [← hys] at tp hr1
        rw [← hpre] at tp epre
        refine ⟨_, rfl, rd_Entry_is_recalled T he ⟨_, rfl, ?_⟩⟩
        cases c2 : e.cb with
        | false =>
          refine iteF ?_
          refine ifF rfl ⟨_, rfl, rd_Entry_state T he ⟨rfl, ⟨_, rfl, ?_⟩⟩⟩
          rw [stq_used]
          refine ifF (decide_eq_false nu) ⟨_, rfl, k r H1 ys s1 hr hr1 ?_⟩
          rw [enc, if_neg (show ¬ (e.cb = true ∧ e.nt = false) from fun z => (by rw [c2] at z; cases z.1)), List.append_nil, ← epre]
          exact tp
        | true =>
          refine iteT ⟨_, rfl, rd_Entry_is_noted T he ⟨_, rfl, ?_⟩⟩
          cases c3 : e.nt with
          | true =>
            refine ifF rfl ⟨_, rfl, rd_Entry_state T he ⟨rfl, ⟨_, rfl, ?_⟩⟩⟩
            rw [stq_used]
            refine ifF (decide_eq_false nu) ⟨_, rfl, k r H1 ys s1 hr hr1 ?_⟩
            rw [enc, if_neg (show ¬ (e.cb = true ∧ e.nt = false) from fun z => (by rw [c3] at z; cases z.2)), List.append_nil, ← epre]
            exact tp
          | false =>
            refine ifT rfl ⟨_, rfl, .inl ⟨rfl, _, SqL.of hr1⟩, ?_⟩
            refine ⟨_, rfl, rd_Office_name T hof ⟨_, rfl, rd_Entry_receiver T he ⟨_, rfl, rd_Entry_thing T he ⟨line16 (by show 4 ≤ 16000000; decide), fun p hp => ?_⟩⟩⟩⟩
            rw [hq]
            have s2 := Same.upd (H := H1) (o := HO.tup [.str "notice", .str S.name, .str rc, .str t]) hp
            have hp2 := upd_same (H := H1) (a := p) (o := HO.tup [.str "notice", .str S.name, .str rc, .str t])
            have tp2 := tp.same s2
            have hr2 := s2 _ _ hr1
            generalize hH2 : upd H1 p (HO.tup [.str "notice", .str S.name, .str rc, .str t]) = H2 at s2 hp2 tp2 hr2 ⊢
            obtain ⟨de2, he2⟩ := (O.same (Same.tr s1 s2)).ent t e (gt_mem ht)
            refine ⟨r, ys, _, rfl, rfl, hr2, lt_line (by omega), ?_⟩
            have hpr : p ≠ r := ne_of hp2 hr2 (by intro z; cases z)
            have her : L.ea t ≠ r := ne_of he2 hr2 (by intro z; cases z)
            have s3 : Same H (upd H2 r (.lst (ys ++ [.ref p]))) := fun b o q => by
              rw [upd_ne (ne_of_none q hr)]
              exact s2 _ _ (s1 _ _ q)
            refine ⟨_, rfl, rd_Entry_state T ((upd_ne her).trans he2) ⟨rfl, ⟨_, rfl, ?_⟩⟩⟩
            rw [stq_used]
            refine ifF (decide_eq_false nu) ⟨_, rfl, k r _ (ys ++ [.ref p]) s3 hr upd_same ?_⟩
            rw [enc, if_pos (show e.cb = true ∧ e.nt = false from ⟨c2, c3⟩), List.map_append, ← epre]
            exact (tp2.snoc hp2).mono fun a q z => (upd_ne (ne_of z hr2 (by intro z; cases z))).trans z
      | false =>
        refine ifT rfl ?_
        refine ⟨_, rfl, rd_Entry_thing T he ⟨_, rfl, rd_Entry_home T he ⟨_, rfl, rd_Entry_quantity T he ⟨_, rfl, rd_Entry_epoch T he ⟨line16 (by show 4 ≤ 16000000; decide), fun p1 hp1 => ?_⟩⟩⟩⟩⟩
        have sA := Same.upd (H := H1) (o := HO.tup [.str t, optV e.home, .int e.qty, .int e.ep]) hp1
        have hpA := upd_same (H := H1) (a := p1) (o := HO.tup [.str t, optV e.home, .int e.qty, .int e.ep])
        have hrA := sA _ _ hr1
        have sHA := Same.tr s1 sA
        clear hr1 he hof s1
        generalize hH2 : upd H1 p1 (HO.tup [.str t, optV e.home, .int e.qty, .int e.ep]) = H2 at sA hpA hrA sHA ⊢
        obtain ⟨do2, hof⟩ := (O.same sHA).of
        obtain ⟨de2, he⟩ := (O.same sHA).ent t e (gt_mem ht)
        refine ⟨_, rfl, .inl ⟨rfl, _, SqL.of hrA⟩, ?_⟩
        refine ⟨_, rfl, rd_Office_name T hof ⟨_, rfl, rd_Entry_receiver T he ⟨line16 (by show 3 ≤ 16000000; decide), fun p2 hp2 => ?_⟩⟩⟩
        have sB := Same.upd (H := H2) (o := HO.tup [.str "deed", .str S.name, optV e.rcv]) hp2
        have hpB := upd_same (H := H2) (a := p2) (o := HO.tup [.str "deed", .str S.name, optV e.rcv])
        have hpA2 := sB _ _ hpA
        have hrB := sB _ _ hrA
        refine ⟨_, rfl, p2, p1, _, _, rfl, rfl, SqT.of hpB, SqT.of hpA2, (fun z => by cases z), line16 (by show 7 ≤ 16000000; decide), (fun z => by cases z), fun _ p3 hp3 => ?_⟩
        have sC := Same.upd (H := upd H2 p2 (HO.tup [.str "deed", .str S.name, optV e.rcv])) (o := HO.tup ([.str "deed", .str S.name, optV e.rcv] ++ [.str t, optV e.home, .int e.qty, .int e.ep])) hp3
        have hpC := upd_same (H := upd H2 p2 (HO.tup [.str "deed", .str S.name, optV e.rcv])) (a := p3) (o := HO.tup ([.str "deed", .str S.name, optV e.rcv] ++ [.str t, optV e.home, .int e.qty, .int e.ep]))
        have hrC := sC _ _ hrB
        have sHC := Same.tr (Same.tr sHA sB) sC
        clear sA hpA hrA sHA hof he sB hpB hpA2 hrB sC hp3 hp2 hp1
        generalize hH4 : upd (upd H2 p2 (HO.tup [.str "deed", .str S.name, optV e.rcv])) p3 (HO.tup ([.str "deed", .str S.name, optV e.rcv] ++ [.str t, optV e.home, .int e.qty, .int e.ep])) = H4 at hpC hrC sHC ⊢
        refine ⟨r, [], _, rfl, rfl, hrC, lt_line (by decide), ?_⟩
        have s1 : Same H (upd H4 r (.lst ([] ++ [.ref p3]))) := fun b o q => by
          rw [upd_ne (ne_of_none q hr)]
          exact sHC _ _ q
        have hr1 := upd_same (H := H4) (a := r) (o := HO.lst ([] ++ [.ref p3]))
        have hp3r : p3 ≠ r := ne_of hpC hrC (by intro z; cases z)
        have tp : Tups (upd H4 r (.lst ([] ++ [.ref p3]))) ([] ++ [.ref p3]) ((if e.rd = false then [Ltr.deed S.name rc t h e.qty e.ep] else []).map Ltr.enc) := by
          rw [if_pos c1]
          refine Tups.one ((upd_ne hp3r).trans ?_)
          rw [hpC, ho, hq]
          rfl
        obtain ⟨ys, hys, hyl⟩ : ∃ ys : List V, ys = [] ++ [.ref p3] ∧ ys.length ≤ 1 := ⟨_, rfl, Nat.le_refl _⟩
        obtain ⟨pre, epre⟩ : ∃ pre : List (List V), pre = (if e.rd = false then [Ltr.deed S.name rc t h e.qty e.ep] else []).map Ltr.enc := ⟨_, rfl⟩
        rw [← hys] at tp hr1 s1
        rw [← epre] at tp
        have e5 : upd H4 r (.lst ([] ++ [.ref p3])) = upd H4 r (.lst ys) := by rw [hys]
        rw [e5]
        clear e5 hpC hrC sHC hH4 hH2 hH1
        generalize hH5 : upd H4 r (.lst ys) = H1 at s1 hr1 tp ⊢
        obtain ⟨do3, hof⟩ := (O.same s1).of
        obtain ⟨de3, he⟩ := (O.same s1).ent t e (gt_mem ht)
        refine ⟨_, rfl, rd_Entry_is_recalled T he ⟨_, rfl, ?_⟩⟩
        cases c2 : e.cb with
        | false =>
          refine iteF ?_
          refine ifF rfl ⟨_, rfl, rd_Entry_state T he ⟨rfl, ⟨_, rfl, ?_⟩⟩⟩
          rw [stq_used]
          refine ifF (decide_eq_false nu) ⟨_, rfl, k r H1 ys s1 hr hr1 ?_⟩
          rw [enc, if_neg (show ¬ (e.cb = true ∧ e.nt = false) from fun z => (by rw [c2] at z; cases z.1)), List.append_nil, ← epre]
          exact tp
        | true =>
          refine iteT ⟨_, rfl, rd_Entry_is_noted T he ⟨_, rfl, ?_⟩⟩
          cases c3 : e.nt with
          | true =>
            refine ifF rfl ⟨_, rfl, rd_Entry_state T he ⟨rfl, ⟨_, rfl, ?_⟩⟩⟩
            rw [stq_used]
            refine ifF (decide_eq_false nu) ⟨_, rfl, k r H1 ys s1 hr hr1 ?_⟩
            rw [enc, if_neg (show ¬ (e.cb = true ∧ e.nt = false) from fun z => (by rw [c3] at z; cases z.2)), List.append_nil, ← epre]
            exact tp
          | false =>
            refine ifT rfl ⟨_, rfl, .inl ⟨rfl, _, SqL.of hr1⟩, ?_⟩
            refine ⟨_, rfl, rd_Office_name T hof ⟨_, rfl, rd_Entry_receiver T he ⟨_, rfl, rd_Entry_thing T he ⟨line16 (by show 4 ≤ 16000000; decide), fun p hp => ?_⟩⟩⟩⟩
            rw [hq]
            have s2 := Same.upd (H := H1) (o := HO.tup [.str "notice", .str S.name, .str rc, .str t]) hp
            have hp2 := upd_same (H := H1) (a := p) (o := HO.tup [.str "notice", .str S.name, .str rc, .str t])
            have tp2 := tp.same s2
            have hr2 := s2 _ _ hr1
            generalize hH2 : upd H1 p (HO.tup [.str "notice", .str S.name, .str rc, .str t]) = H2 at s2 hp2 tp2 hr2 ⊢
            obtain ⟨de2, he2⟩ := (O.same (Same.tr s1 s2)).ent t e (gt_mem ht)
            refine ⟨r, ys, _, rfl, rfl, hr2, lt_line (by omega), ?_⟩
            have hpr : p ≠ r := ne_of hp2 hr2 (by intro z; cases z)
            have her : L.ea t ≠ r := ne_of he2 hr2 (by intro z; cases z)
            have s3 : Same H (upd H2 r (.lst (ys ++ [.ref p]))) := fun b o q => by
              rw [upd_ne (ne_of_none q hr)]
              exact s2 _ _ (s1 _ _ q)
            refine ⟨_, rfl, rd_Entry_state T ((upd_ne her).trans he2) ⟨rfl, ⟨_, rfl, ?_⟩⟩⟩
            rw [stq_used]
            refine ifF (decide_eq_false nu) ⟨_, rfl, k r _ (ys ++ [.ref p]) s3 hr upd_same ?_⟩
            rw [enc, if_pos (show e.cb = true ∧ e.nt = false from ⟨c2, c3⟩), List.map_append, ← epre]
            exact (tp2.snoc hp2).mono fun a q z => (upd_ne (ne_of z hr2 (by intro z; cases z))).trans z
end LH
namespace LH
open PySem PySem.Spec PyProof.Rows L2
theorem letOf_len (o t : Str) (e : Ent) : (letOf o t e).length ≤ 2 := by
  unfold letOf
  by_cases c : e.st = .given
  · rw [if_pos c, if_neg (show ¬ (e.st = .used ∧ e.pd = false) from fun z => by rw [c] at z; cases z.1)]
    split <;> split <;> simp
  · rw [if_neg c]
    split <;> simp
def rowsTo (S : OSt) (i : Nat) : List (List V) := ((S.es.take i).flatMap fun p => letOf S.name p.1 p.2).map Ltr.enc
theorem flat_len {o : Str} : ∀ l : List (Str × Ent), (l.flatMap fun p => letOf o p.1 p.2).length ≤ 2 * l.length
  | [] => Nat.le_refl _
  | p :: r => by
    have ih := flat_len (o := o) r
    have := letOf_len o p.1 p.2
    rw [List.flatMap_cons, List.length_append, List.length_cons]
    omega
theorem rowsTo_len (S : OSt) (i : Nat) : (rowsTo S i).length ≤ 2 * S.es.length := by
  unfold rowsTo
  rw [List.length_map]
  have := flat_len (o := S.name) (S.es.take i)
  rw [List.length_take] at this
  omega
def spPending (K : PySem.W.Frag) : Sp := fun vs H Q _ => ∃ (L : Lay) (S : OSt), vs = [.ref L.of] ∧ OffAt K H L S ∧ S.es.length ≤ 1000000 ∧ (∀ t e, S.get t = some e → wfE e) ∧
  ∀ r H' ys, Same H H' → H r = none → H' r = some (.lst ys) → Tups H' ys (S.pend.map Ltr.enc) → Q (.ref r) H'
theorem sc_Office_pending : FnScope ["self", "letters", "thing"] ["self"] (defScope sOffice_pending) := ⟨rfl, rfl, rfl, by decide +kernel, rfl, by decide +kernel, by decide +kernel⟩
abbrev Ok_Office_pending (P : Program) (w : World) (K : PySem.W.Frag) (mg : Str → Option Value) (base : Heap) : Prop := Has P w K mg base CX0 2 (fOffice_pending K) ["self"] (spPending K)
theorem ok_Office_pending {P : Program} {w : World} {K : PySem.W.Frag} {mg : Str → Option Value} {base : Heap} (T : Txt K mg) (h_Office_known : Ok_Office_known P w K mg base) (h_Office_letters_of : Ok_Office_letters_of P w K mg base) : Ok_Office_pending P w K mg base := by
  obtain ⟨fd, F⟩ := T.dOffice_pending
  obtain ⟨fd_Office_known, G_Office_known, b_Office_known⟩ := h_Office_known
  obtain ⟨fd_Office_letters_of, G_Office_letters_of, b_Office_letters_of⟩ := h_Office_letters_of
  refine ⟨fd, FunD.ok (CX := CX0) F sc_Office_pending (fun vs H Q E h => ?_) (fun cdv A outer s H vs Q E hr h => ?_), FunD.bindsN F fun _ _ _ _ _ _ us hl => match us, hl with | [_], _ => rfl⟩
  · obtain ⟨L, S, rfl, _⟩ := h
    rfl
  · have hu := hu_of hr
    refine ⟨_, PSs.nox (pss_cons (ps_set (i := 1) sc_Office_pending.nd rfl (Or.inl rfl) (pe_lst pa_nil))
      (pss_cons (ps_for PassesOwn.never rfl (pi_list (pe_meth0 (pv 0) T.cl_Office T.m_Office_known G_Office_known (hr.mono (by decide)) b_Office_known .nil pass0)) (pg_name (i := 2) sc_Office_pending.nd rfl (Or.inl rfl)) (pss_one (ps_expr (pe_bm PySem.F.plainAttrs_list PySem.F.slot_list_extend PySem.F.type_list_extend mt_extend (pv 1) (pa_cons (pe_meth (pv 0) T.cl_Office T.m_Office_letters_of G_Office_letters_of (hr.mono (by decide)) b_Office_letters_of .nil pass0 (pa_cons (pe_dget hu (pe_fld (pe_fld (pv 0) rfl) rfl) (pv 2) (fun _ _ => rfl)) pa_nil)) pa_nil)))))
      (pss_one (ps_ret (pv 1))))), ?_⟩
    obtain ⟨L, S, rfl, O, hz, hwf, k⟩ := h
    refine ⟨Nat.zero_le _, fun l hl => ?_⟩
    have s1 := Same.upd (H := H) (o := HO.lst []) hl
    have hl1 := upd_same (H := H) (a := l) (o := HO.lst [])
    generalize hH1 : upd H l (.lst []) = H1 at s1 hl1 ⊢
    have O1 := O.same s1
    obtain ⟨do_, hof⟩ := O1.of
    refine ⟨_, rfl, L.of, do_, _, rfl, hof, ln_Office_known _ _ _, L, S, rfl, O1, fun r hr => ?_⟩
    have s2 := Same.upd (H := H1) (o := HO.lst (S.es.map fun p => V.str p.1)) hr
    have hr2 := upd_same (H := H1) (a := r) (o := HO.lst (S.es.map fun p => V.str p.1))
    have hl2 := s2 _ _ hl1
    have hrl : r ≠ l := fun z => by
      rw [z, hl1] at hr
      cases hr
    have sH2 := Same.tr s1 s2
    have hrH : H r = none := Same.none s1 hr
    generalize hH2 : upd H1 r (.lst (S.es.map fun p => V.str p.1)) = H2 at s2 hr2 hl2 sH2 ⊢
    refine ⟨r, rfl, ⟨_, SqL.of hr2⟩, for_list (K := K) (a := r) (xs := S.es.map fun p => V.str p.1)
      (fun i σ H' => ∃ (v2 : Option V) (ys : List V), σ = [some (.ref L.of), some (.ref l), v2] ∧ Same H H' ∧ H' l = some (.lst ys) ∧ H' r = some (.lst (S.es.map fun p => V.str p.1)) ∧ Tups H' ys (rowsTo S i))
      ⟨_, [], rfl, sH2, hl2, hr2, trivial⟩ ?_ ?_ ?_⟩
    · rintro i σ H' _ ⟨v2, ys, rfl, sm, h1, h2, _⟩
      exact SqL.of h2
    · rintro i x σ H' hx ⟨v2, ys, rfl, sm, h1, h2, tp⟩
      obtain ⟨⟨t, e⟩, hp, rfl⟩ : ∃ p, S.es[i]? = some p ∧ x = V.str p.1 := by
        rw [List.getElem?_map] at hx
        cases e : S.es[i]? with
        | none =>
          rw [e] at hx
          cases hx
        | some p =>
          rw [e] at hx
          exact ⟨p, rfl, (Option.some.inj hx).symm⟩
      have hm : (t, e) ∈ S.es := List.mem_of_getElem? hp
      have hg : S.get t = some e := mem_gt O.nd hm
      have O2 := O.same sm
      obtain ⟨d2, hof2⟩ := O2.of
      obtain ⟨b2, hb2⟩ := O2.bk
      refine ⟨_, rfl, .inl ⟨rfl, _, SqL.of h1⟩, ?_⟩
      refine ⟨_, rfl, L.of, d2, _, rfl, hof2, ln_Office_letters_of _ _ _, _, rfl, rd_Office_book T hof2 (rd_Book_entries T hb2 ⟨_, rfl, L.en, _, rfl, dget_some O2.en hg, ?_⟩)⟩
      refine ⟨L, S, t, e, rfl, O2, hg, hwf t e hg, fun q H3 zs sm3 hq hq3 tz => ?_⟩
      have h13 := sm3 _ _ h1
      have h23 := sm3 _ _ h2
      have rl := rowsTo_len S i
      have zl := letOf_len S.name t e
      have e1 := tp.len
      have e2 := tz.len
      rw [List.length_map] at e2
      refine ⟨l, q, ys, zs, rfl, rfl, h13, hq3, line16 (by omega), ?_⟩
      have tk := take_snoc hp
      refine ⟨_, ys ++ zs, rfl, fun b o z => ?_, upd_same, ?_, ?_⟩
      · rw [upd_ne (ne_of_none z hl)]
        exact sm3 _ _ (sm _ _ z)
      · exact (upd_ne hrl).trans h23
      · have e3 : rowsTo S (i + 1) = rowsTo S i ++ (letOf S.name t e).map Ltr.enc := by
          unfold rowsTo
          rw [tk, List.flatMap_append, List.map_append]
          simp
        rw [e3]
        exact ((tp.same sm3).app tz).mono fun a w z => (upd_ne (ne_of z h13 (by intro z; cases z))).trans z
    · rintro σ H' ⟨v2, ys, rfl, sm, h1, h2, tp⟩
      refine ⟨_, rfl, k l H' ys sm hl h1 ?_⟩
      rw [List.length_map] at tp
      have e3 : rowsTo S S.es.length = S.pend.map Ltr.enc := by
        unfold rowsTo
        rw [List.take_length]
        rfl
      rw [← e3]
      exact tp
end LH
namespace LH
open PySem PySem.Spec PyProof.Rows L2
/-! ### texts of ids -/
def Tk (t : Str) : Prop := t.length ≤ 2000 ∧ PyData.strOk t = true
theorem strOk_app {a b : Str} (ha : PyData.strOk a = true) (hb : PyData.strOk b = true) : PyData.strOk (a ++ b) = true := by
  unfold PyData.strOk at *
  rw [Array.all_eq_true'] at *
  intro x hx
  have hx : x ∈ a.cps ++ b.cps := hx
  rcases Array.mem_append.mp hx with q | q
  · exact ha x q
  · exact hb x q
theorem strOk_of (s : String) : PyData.strOk (Str.ofString s) = true := by
  unfold PyData.strOk
  rw [Str.ofString_eq_toList, Array.all_eq_true']
  intro x hx
  have hx : x ∈ ((s.toList.map Char.toNat).toArray) := hx
  rw [List.mem_toArray, List.mem_map] at hx
  obtain ⟨c, _, rfl⟩ := hx
  have h := c.valid
  refine decide_eq_true ?_
  show c.val.toNat < 0x110000
  rcases h with h | ⟨_, h⟩
  · have : c.val.toNat < 0xd800 := h
    omega
  · exact h
theorem name_tk {o : Str} (h : o ∈ names4) : Tk o := by
  have := (ok_signs o h).1
  refine ⟨by omega, ?_⟩
  have : ∀ o ∈ names4, PyData.strOk o = true := by decide +kernel
  exact this o h
theorem idf_tk {o : Str} {k : Int} (h : o ∈ names4) (h0 : 0 ≤ k) (h1 : k ≤ 1000000000000) : Tk (idf o k) := by
  have a := (ok_signs o h).1
  have b := app_len (o ++ ("-" : Str)) (num k)
  have c := app_len o ("-" : Str)
  have d := dash_len
  have e := num_len (log_small h0 h1)
  refine ⟨?_, strOk_app (strOk_app (name_tk h).2 (strOk_of "-")) (strOk_of _)⟩
  show ((o ++ ("-" : Str)) ++ num k).length ≤ 2000
  omega
theorem cps_app (a b : Str) : (a ++ b).cps.toList = a.cps.toList ++ b.cps.toList := by
  show (a.cps ++ b.cps).toList = _
  exact Array.toList_append
theorem str_eq {a b : Str} (h : a.cps.toList = b.cps.toList) : a = b := by
  cases a
  cases b
  congr
  exact Array.toList_inj.mp h
theorem num_inj {i j : Int} (i0 : 0 ≤ i) (i1 : i < 10 ^ 10) (j0 : 0 ≤ j) (j1 : j < 10 ^ 10) (h : num i = num j) : i = j := by
  have a := PySem.W.KIN.num_reads i0 i1
  have b := PySem.W.KIN.num_reads j0 j1
  unfold num at h
  rw [h, b] at a
  exact (Option.some.inj a).symm
theorem idf_inj {o p : Str} {i j : Int} (ho : o ∈ names4) (hp : p ∈ names4) (i0 : 0 ≤ i) (i1 : i < 10 ^ 10) (j0 : 0 ≤ j) (j1 : j < 10 ^ 10) (h : idf o i = idf p j) : o = p ∧ i = j := by
  have lo := (ok_signs o ho).1
  have lp := (ok_signs p hp).1
  have lo : o.cps.toList.length = 3 := lo
  have lp : p.cps.toList.length = 3 := lp
  have e := congrArg (fun z : Str => z.cps.toList) h
  simp only [idf, cps_app, List.append_assoc] at e
  obtain ⟨e1, e2⟩ := List.append_inj e (by omega)
  obtain ⟨_, e3⟩ := List.append_inj e2 rfl
  exact ⟨str_eq e1, num_inj i0 i1 j0 j1 (str_eq e3)⟩
/-- an entry's parts are small -/
structure EOk (t : Str) (e : Ent) : Prop where
  tk : Tk t
  home : ∀ h, e.home = some h → Tk h
  rcv : ∀ r, e.rcv = some r → Tk r
  q0 : 0 ≤ e.qty
  q1 : e.qty ≤ 1000000000
  e0 : 0 ≤ e.ep
  e1 : e.ep ≤ 1000000000
  wf : wfE e
/-- an office is small -/
structure Small (S : OSt) : Prop where
  nm : S.name ∈ names4
  nx0 : 0 ≤ S.nx
  nx1 : S.nx ≤ 900000
  es : S.es.length ≤ 800000
  ps : S.ps.length ≤ 800000
  ln : S.ln ≤ 9000000
  kids : kidsIn S
  chs : chs (fun _ => false) S.es ≤ 800000
  ent : ∀ t e, S.get t = some e → EOk t e
  fresh : ∀ k, S.nx ≤ k → k ≤ 1000000 → S.get (idf S.name k) = none
  pst : ∀ p ∈ S.ps, Tk p.2.1
theorem ch_le : ∀ {l : List (Str × Ent)} {t : Str} {e : Ent}, (t, e) ∈ l → e.ch.length ≤ chs (fun _ => false) l
  | p :: r, t, e, h => by
    show _ ≤ (if false = true then 0 else p.2.ch.length) + chs (fun _ => false) r
    rcases List.mem_cons.mp h with q | q
    · rw [← q]
      simp
    · have := ch_le q
      omega
theorem wd_int {i : Int} (h0 : 0 ≤ i) (h1 : i ≤ 1000000000000) : Wd (.int i) := log_small h0 h1
theorem wd_str {t : Str} (h : Tk t) : Wd (.str t) := Nat.le_trans h.1 (by decide)
theorem wds_nil : ∀ v ∈ ([] : List V), Wd v := fun v h => by cases h
theorem wds_cons {v : V} {l : List V} (h : Wd v) (k : ∀ u ∈ l, Wd u) : ∀ u ∈ v :: l, Wd u := fun u m => by
  rcases List.mem_cons.mp m with q | q
  · rw [q]
    exact h
  · exact k u q
/-! ### letters as data -/
structure LOk (l : Ltr) : Prop where
  ok : ∀ v ∈ l.enc, (∃ x, v = .str x ∧ Tk x) ∨ ∃ i, v = .int i ∧ 0 ≤ i ∧ i ≤ 1000000000
def Ltr.dat (l : Ltr) : PyData := .tuple (l.enc.map flatd)
theorem eqv_str (a b : Str) : PyData.eqv (.str a) (.str b) = decide (a = b) := by
  simp only [PyData.eqv]
  by_cases e : a = b
  · rw [e]
    simp
  · simp [e]
theorem eqv_int (a b : Int) : PyData.eqv (.int a) (.int b) = decide (a = b) := by
  simp only [PyData.eqv]
  by_cases e : a = b
  · rw [e]
    simp
  · simp [e]
theorem dat_eqv (a b : Ltr) : PyData.eqv a.dat b.dat = decide (a = b) := by
  have k : ∀ (x y : Str), x ≠ y → decide (x = y) = false := fun x y h => decide_eq_false h
  cases a <;> cases b <;> simp only [Ltr.dat, Ltr.enc, List.map_cons, List.map_nil, flatd, PyData.eqv, PyData.eqvAll, eqv_str, eqv_int, Ltr.deed.injEq, Ltr.receipt.injEq, Ltr.notice.injEq, Ltr.noted.injEq, Ltr.claim.injEq, Ltr.paid.injEq, Bool.decide_and, reduceCtorEq, decide_false, Bool.and_true, Bool.true_and, beq_self_eq_true, decide_true, Bool.and_assoc] <;> first | rfl | (congr; done) | simp [Bool.and_assoc, show ∀ x y : Str, ((x == y) = decide (x = y)) from fun x y => by by_cases e : x = y <;> simp [e], show ∀ x y : Int, ((x == y) = decide (x = y)) from fun x y => by by_cases e : x = y <;> simp [e]]
theorem enc_flat (l : Ltr) : ∀ v ∈ l.enc, flatV v := by
  intro v hv
  cases l <;> simp only [Ltr.enc, List.mem_cons, List.not_mem_nil, or_false] at hv <;> rcases hv with rfl | hv <;> first | trivial | (rcases hv with rfl | hv <;> first | trivial | (rcases hv with rfl | hv <;> first | trivial | (rcases hv with rfl | hv <;> first | trivial | (rcases hv with rfl | hv <;> first | trivial | (rcases hv with rfl | hv <;> first | trivial | (subst hv; trivial)))))) | skip
  all_goals first | trivial | (subst hv; trivial)
theorem lay_flat : ∀ {vs : List V}, (∀ v ∈ vs, (∃ x, v = .str x ∧ Tk x) ∨ ∃ i, v = .int i ∧ 0 ≤ i ∧ i ≤ 1000000000) → PyData.canLayAll0 (vs.map flatd) = true
  | [], _ => rfl
  | v :: vs, h => by
    have ih := lay_flat (vs := vs) fun u hu => h u (List.mem_cons_of_mem _ hu)
    rcases h v List.mem_cons_self with ⟨x, rfl, hx⟩ | ⟨i, rfl, _⟩
    · show (PyData.strOk x && PyData.canLayAll0 (vs.map flatd)) = true
      rw [hx.2, ih]
      rfl
    · show (true && PyData.canLayAll0 (vs.map flatd)) = true
      rw [ih]
      rfl
theorem depth_flat : ∀ vs : List V, PyData.depthAll (vs.map flatd) = 0
  | [] => rfl
  | v :: vs => by
    show max (PyData.depth (flatd v)) (PyData.depthAll (vs.map flatd)) = 0
    rw [depth_flat vs]
    cases v <;> rfl
theorem dat_depth (l : Ltr) : PyData.depth l.dat = 1 := by
  show PyData.depthAll (l.enc.map flatd) + 1 = 1
  rw [depth_flat]
theorem dat_lay {l : Ltr} (h : LOk l) : PyData.canLay0 l.dat = true := lay_flat h.ok
theorem dats_lay : ∀ {ls : List Ltr}, (∀ l ∈ ls, LOk l) → PyData.canLayAll0 (ls.map Ltr.dat) = true
  | [], _ => rfl
  | l :: ls, h => by
    show (PyData.canLay0 l.dat && PyData.canLayAll0 (ls.map Ltr.dat)) = true
    rw [dat_lay (h l List.mem_cons_self), dats_lay fun m hm => h m (List.mem_cons_of_mem _ hm)]
    rfl
theorem dats_depth : ∀ ls : List Ltr, PyData.depthAll (ls.map Ltr.dat) ≤ 1
  | [] => Nat.zero_le _
  | l :: ls => by
    show max (PyData.depth l.dat) (PyData.depthAll (ls.map Ltr.dat)) ≤ 1
    rw [dat_depth]
    exact Nat.max_le.mpr ⟨Nat.le_refl _, dats_depth ls⟩
theorem any_dat (l : Ltr) : ∀ ls : List Ltr, (ls.map Ltr.dat).any (fun z => PyData.eqv z l.dat) = decide (l ∈ ls)
  | [] => by simp
  | m :: ls => by
    rw [List.map_cons, List.any_cons, any_dat l ls, dat_eqv]
    by_cases e : m = l
    · simp [e]
    · have : ¬ l = m := fun z => e z.symm
      simp [e, this]
theorem notin_rule {K : PySem.W.Frag} {H : Hp} {Q : VK} {a b : Addr} {l : Ltr} {ls : List Ltr} {ys : List V} (ha : H a = some (.tup l.enc)) (hb : H b = some (.lst ys)) (tp : Tups H ys (ls.map Ltr.enc)) (hl : LOk l) (hls : ∀ m ∈ ls, LOk m)
    (q : Q (.bl (!decide (l ∈ ls))) H) : rNotInD K (.ref a) (.ref b) H Q := by
  refine ⟨l.dat, ls.map Ltr.dat, .tup (SqT.of ha) (DpAll.flat (enc_flat l)), .lst (SqL.of hb) ?_, ?_, ?_, ?_⟩
  · have := tp.dp (K := K) fun r hr => by
      obtain ⟨m, _, rfl⟩ := List.mem_map.mp hr
      exact enc_flat m
    rw [List.map_map] at this
    exact this
  · unfold SeqAt.shaped
    rw [dat_lay hl, dat_depth]
    rfl
  · unfold SeqAt.shaped
    have h1 : PyData.canLay0 (.list (ls.map Ltr.dat)) = true := dats_lay hls
    have h2 : PyData.depth (.list (ls.map Ltr.dat)) ≤ 2 := Nat.succ_le_succ (dats_depth ls)
    rw [h1, decide_eq_true (show PyData.depth (.list (ls.map Ltr.dat)) ≤ 64 by omega)]
    rfl
  · rw [any_dat]
    exact q
end LH
namespace LH
open PySem PySem.Spec PyProof.Rows L2
/-! ### offices: commands -/
theorem Small.nm100 {S : OSt} (h : Small S) : S.name.length ≤ 100 := by
  have := (ok_signs S.name h.nm).1
  omega
theorem Small.name {S : OSt} (h : Small S) : Tk S.name := name_tk h.nm
theorem Small.wf {S : OSt} (h : Small S) : ∀ t e, S.get t = some e → wfE e := fun t e q => (h.ent t e q).wf
theorem Frm.none {H H' : Hp} {F F' : Addr → Prop} (f : Frm H F H' F') {b : Addr} (h : H' b = none) : H b = none := by
  cases e : H b with
  | none => rfl
  | some o => exact absurd h (f.grow b (by rw [e]; intro z; cases z))
def spCreate (K : PySem.W.Frag) : Sp := fun vs H Q E => ∃ (L : Lay) (S : OSt) (q : Int), vs = [.ref L.of, .int q] ∧ OffAt K H L S ∧ Small S ∧ Errs K H E ∧
  ((1 ≤ q ∧ q ≤ 1000000000) → ∀ H' L', Stp K H L S H' L' (S.lnup.begin_ (idf S.name S.nx) (some S.name) q) → Q (.str (idf S.name S.nx)) H')
theorem sc_Office_create : FnScope ["self", "quantity", "thing"] ["self", "quantity"] (defScope sOffice_create) := ⟨rfl, rfl, rfl, by decide +kernel, rfl, by decide +kernel, by decide +kernel⟩
abbrev Ok_Office_create (P : Program) (w : World) (K : PySem.W.Frag) (mg : Str → Option Value) (base : Heap) : Prop := Has P w K mg base (L2.CX P w) 7 (fOffice_create K) ["self", "quantity"] (spCreate K)
theorem ok_Office_create {P : Program} {w : World} {K : PySem.W.Frag} {mg : Str → Option Value} {base : Heap} (T : Txt K mg) (h_check_quantity : Ok_check_quantity P w K mg base) (h_Book_new_ids : Ok_Book_new_ids P w K mg base) (h_Office_write : Ok_Office_write P w K mg base) : Ok_Office_create P w K mg base := by
  obtain ⟨fd, F⟩ := T.dOffice_create
  obtain ⟨fd_check_quantity, G_check_quantity, b_check_quantity⟩ := h_check_quantity
  have k_check_quantity : PySem.W.keepIn K (.ref (f_check_quantity K)) = true := by
    obtain ⟨_, q⟩ := T.d_check_quantity
    exact q.kp
  obtain ⟨fd_Book_new_ids, G_Book_new_ids, b_Book_new_ids⟩ := h_Book_new_ids
  obtain ⟨fd_Office_write, G_Office_write, b_Office_write⟩ := h_Office_write
  refine ⟨fd, FunD.ok (CX := (L2.CX P w)) F sc_Office_create (fun vs H Q E h => ?_) (fun cdv A outer s H vs Q E hr h => ?_), FunD.bindsN F fun _ _ _ _ _ _ us hl => match us, hl with | [_, _], _ => rfl⟩
  · obtain ⟨L, S, q, rfl, _⟩ := h
    rfl
  · have hu := hu_of hr
    refine ⟨_, (pss_cons (ps_expr (pe_call G_check_quantity (hr.mono (by decide)) rfl T.g_check_quantity k_check_quantity b_check_quantity .nil (passes_call (takes_of rfl rfl rfl rfl) (fun _ _ _ _ z => z)) (pa_cons (pv 1) pa_nil)))
      (pss_cons (ps_set (i := 2) sc_Office_create.nd rfl (Or.inl rfl) (pe_ix ix_list (pe_meth (pe_fld (pv 0) rfl) T.cl_Book T.m_Book_new_ids G_Book_new_ids (hr.mono (by decide)) b_Book_new_ids .nil pass0 (pa_cons pe_int pa_nil)) pe_int (fun _ _ => rfl)))
      (pss_cons (ps_expr (pe_meth (pv 0) T.cl_Office T.m_Office_write G_Office_write (hr.mono (by decide)) b_Office_write .nil pass0 (pa_cons (pe_tup (pa_cons pe_str (pa_cons (pv 2) (pa_cons (pv 1) pa_nil)))) pa_nil)))
      (pss_one (ps_ret (pv 2)))))), ?_⟩
    obtain ⟨L, S, q, rfl, O, sm, kE, k⟩ := h
    refine ⟨_, rfl, q, rfl, fun hq => ?_, fun _ => kE _ _ (.inr (.inr (.inr (.inl rfl)))) Same.rfl'⟩
    obtain ⟨do_, hof⟩ := O.of
    obtain ⟨b2, hb2⟩ := O.bk
    refine ⟨_, rfl, rd_Office_book T hof ⟨L.bk, b2, _, rfl, hb2, ln_Book_new_ids _ _ _ _ _, L, S, 1, rfl, O, sm.nm100, sm.nx0, by have := sm.nx1; omega, by decide, fun r hr => ?_⟩⟩
    have e1 : idsV S.name S.nx 1 = [V.str (idf S.name S.nx)] := by
      unfold idsV
      simp
    rw [e1]
    have s1 := Same.upd (H := H) (o := HO.lst [V.str (idf S.name S.nx)]) hr
    refine ixL T upd_same (.str (idf S.name S.nx)) ?_
    have O1 := O.same s1
    generalize hH1 : upd H r (HO.lst [V.str (idf S.name S.nx)]) = H1 at s1 O1 ⊢
    obtain ⟨d2, hof2⟩ := O1.of
    refine ⟨_, rfl, L.of, d2, _, rfl, hof2, ln_Office_write _ _ _, ?_⟩
    refine ⟨_, rfl, _, rfl, line16 (by show 3 ≤ 16000000; decide), fun a ha => ?_⟩
    have s2 := Same.upd (H := H1) (o := HO.tup [V.str "register", V.str (idf S.name S.nx), V.int q]) ha
    have tk := idf_tk sm.nm sm.nx0 (by have := sm.nx1; omega)
    refine ⟨L, S, a, .reg (idf S.name S.nx) q, rfl, O1.same s2, upd_same, sm.fresh S.nx (Int.le_refl _) (by have := sm.nx1; omega), by have := sm.es; omega, by have := sm.ln; omega, ?_, by show 3 ≤ 1000; decide, fun H' L' S' ap st => ?_⟩
    · exact wds_cons (wd_str ⟨by decide +kernel, by decide +kernel⟩) (wds_cons (wd_str tk) (wds_cons (wd_int (by omega) (by omega)) wds_nil))
    · have ap : S' = S.lnup.begin_ (idf S.name S.nx) (some S.name) q := ap
      subst ap
      exact ⟨_, rfl, k hq H' L' ((Stp.same O (Same.tr s1 s2)).trans st)⟩
/-- the entry after it is given away -/
def giveF (n : Int) (r : Str) (e : Ent) : Ent := { e with st := .given, ep := n, rcv := some r, rd := false }
def useF (e : Ent) : Ent := { e with st := .used }
def spOffGive (K : PySem.W.Frag) : Sp := fun vs H Q E => ∃ (L : Lay) (S : OSt) (t r : Str), vs = [.ref L.of, .str t, .str r] ∧ OffAt K H L S ∧ Small S ∧ r ∈ names4 ∧ Errs K H E ∧
  (r ≠ S.name → ∀ e, S.get t = some e → e.st = .held → e.cb = false → ∀ H' L' q ys, Stp K H L S H' L' (S.lnup.give_ t (e.ep + 1) r) → H q = none → ¬ Foot L' (S.lnup.give_ t (e.ep + 1) r) q → H' q = some (.lst ys) →
    Tups H' ys ((letOf S.name t (giveF (e.ep + 1) r e)).map Ltr.enc) → Q (.ref q) H')
theorem sc_Office_give : FnScope ["self", "thing", "receiver", "found"] ["self", "thing", "receiver"] (defScope sOffice_give) := ⟨rfl, rfl, rfl, by decide +kernel, rfl, by decide +kernel, by decide +kernel⟩
abbrev Ok_Office_give (P : Program) (w : World) (K : PySem.W.Frag) (mg : Str → Option Value) (base : Heap) : Prop := Has P w K mg base (L2.CX P w) 7 (fOffice_give K) ["self", "thing", "receiver"] (spOffGive K)
theorem ok_Office_give {P : Program} {w : World} {K : PySem.W.Frag} {mg : Str → Option Value} {base : Heap} (T : Txt K mg) (h_is_office : Ok_is_office P w K mg base) (h_Office_free : Ok_Office_free P w K mg base) (h_Office_write : Ok_Office_write P w K mg base) (h_Office_letters_of : Ok_Office_letters_of P w K mg base) : Ok_Office_give P w K mg base := by
  obtain ⟨fd, F⟩ := T.dOffice_give
  obtain ⟨fd_is_office, G_is_office, b_is_office⟩ := h_is_office
  have k_is_office : PySem.W.keepIn K (.ref (f_is_office K)) = true := by
    obtain ⟨_, q⟩ := T.d_is_office
    exact q.kp
  obtain ⟨fd_Office_free, G_Office_free, b_Office_free⟩ := h_Office_free
  obtain ⟨fd_Office_write, G_Office_write, b_Office_write⟩ := h_Office_write
  obtain ⟨fd_Office_letters_of, G_Office_letters_of, b_Office_letters_of⟩ := h_Office_letters_of
  refine ⟨fd, FunD.ok (CX := (L2.CX P w)) F sc_Office_give (fun vs H Q E h => ?_) (fun cdv A outer s H vs Q E hr h => ?_), FunD.bindsN F fun _ _ _ _ _ _ us hl => match us, hl with | [_, _, _], _ => rfl⟩
  · obtain ⟨L, S, t, r, rfl, _⟩ := h
    rfl
  · have hu := hu_of hr
    refine ⟨_, (pss_cons (ps_if (PW.pt (pw_or (pt_not (pt_val (pe_call G_is_office (hr.mono (by decide)) rfl T.g_is_office k_is_office b_is_office .nil pass0 (pa_cons (pv 2) pa_nil)))) (pw_or1 (pt_cmpR op_eq (pv 2) (pe_fld (pv 0) rfl) (nomark _))))) (pss_one (ps_raise rfl (takes_of rfl rfl rfl rfl) (SkE.pmk_own1 PySem.F.excBase_ValueError T.x_InvalidOffice.1 T.g_InvalidOffice T.x_InvalidOffice.2.1 (raises_own T.x_InvalidOffice.2.2.1 T.x_InvalidOffice.2.2.2) (by exact rfl) (pv 2)))) pss_nil)
      (pss_cons (ps_set (i := 3) sc_Office_give.nd rfl (Or.inl rfl) (pe_meth (pv 0) T.cl_Office T.m_Office_free G_Office_free (hr.mono (by decide)) b_Office_free .nil (passes_call (takes_of rfl rfl rfl rfl) (fun _ _ _ _ z => z)) (pa_cons (pv 1) pa_nil)))
      (pss_cons (ps_expr (pe_meth (pv 0) T.cl_Office T.m_Office_write G_Office_write (hr.mono (by decide)) b_Office_write .nil pass0 (pa_cons (pe_tup (pa_cons pe_str (pa_cons (pv 1) (pa_cons (pe_op op_add (pe_fld (pv 3) rfl) pe_int) (pa_cons (pv 2) pa_nil))))) pa_nil)))
      (pss_one (ps_ret (pe_meth (pv 0) T.cl_Office T.m_Office_letters_of G_Office_letters_of (hr.mono (by decide)) b_Office_letters_of .nil pass0 (pa_cons (pv 3) pa_nil))))))), ?_⟩
    obtain ⟨L, S, t, r, rfl, O, sm, hr4, kE, k⟩ := h
    obtain ⟨do_, hof⟩ := O.of
    refine ⟨_, rfl, r, rfl, hr4, ?_⟩
    refine ⟨_, rfl, iteF ⟨_, rfl, _, rfl, rd_Office_name T hof ⟨rfl, _, rfl, ?_⟩⟩⟩
    rw [dstr]
    by_cases c : r = S.name
    · exact ifT (decide_eq_true c) ⟨_, rfl, kE _ _ (.inr (.inr (.inr (.inr (.inl rfl))))) Same.rfl'⟩
    refine ifF (decide_eq_false c) ?_
    refine ⟨_, rfl, L.of, do_, _, rfl, hof, ln_Office_free _ _ _, _, rfl, L, S, t, rfl, O, fun e he hh hc => ?_, kE⟩
    have ok := sm.ent t e he
    obtain ⟨de, hde⟩ := O.ent t e (gt_mem he)
    refine ⟨_, rfl, L.of, do_, _, rfl, hof, ln_Office_write _ _ _, ?_⟩
    refine ⟨_, rfl, _, rfl, rd_Entry_epoch T hde ⟨_, _, rfl, rfl, _, rfl, line16 (by show 4 ≤ 16000000; decide), fun a ha => ?_⟩⟩
    have s2 := Same.upd (H := H) (o := HO.tup [V.str "give", V.str t, V.int (e.ep + 1), V.str r]) ha
    refine ⟨L, S, a, .give t (e.ep + 1) r, rfl, O.same s2, upd_same, ⟨e, he⟩, by have := sm.es; omega, by have := sm.ln; omega, ?_, by show 4 ≤ 1000; decide, fun H' L' S' ap st => ?_⟩
    · have h1 := ok.e0
      have h2 := ok.e1
      exact wds_cons (wd_str ⟨by decide +kernel, by decide +kernel⟩) (wds_cons (wd_str ok.tk) (wds_cons (wd_int (by omega) (by omega)) (wds_cons (wd_str (name_tk hr4)) wds_nil)))
    · have ap : S' = S.lnup.give_ t (e.ep + 1) r := ap
      subst ap
      have st1 := (Stp.same O s2).trans st
      have he1 : (S.lnup.give_ t (e.ep + 1) r).get t = some (giveF (e.ep + 1) r e) := mod_same (S := S.lnup) _ he
      obtain ⟨d1, hof1⟩ := st1.at_.of
      rw [st1.ex.of] at hof1
      have ek := st1.ex.ea t (key_of he)
      refine ⟨_, rfl, L.of, d1, _, rfl, hof1, ln_Office_letters_of _ _ _, _, rfl, L', _, t, giveF (e.ep + 1) r e, ?_, st1.at_, he1, ⟨fun _ => ok.wf.1 (by rw [hh]; decide), fun _ => ⟨r, rfl⟩⟩, fun q H2 ys sm2 hq hq2 tp => ?_⟩
      · rw [ek, st1.ex.of]
        rfl
      · exact k c e he hh hc H2 L' q ys (st1.trans (Stp.same st1.at_ sm2)) (st1.fr.none hq) (st1.at_.nofoot hq) hq2 tp
def spOffUse (K : PySem.W.Frag) : Sp := fun vs H Q E => ∃ (L : Lay) (S : OSt) (t : Str), vs = [.ref L.of, .str t] ∧ OffAt K H L S ∧ Small S ∧ Errs K H E ∧
  (∀ e, S.get t = some e → e.st = .held → e.cb = false → ∀ H' L' q ys, Stp K H L S H' L' (S.lnup.mod t useF) → H q = none → ¬ Foot L' (S.lnup.mod t useF) q → H' q = some (.lst ys) →
    Tups H' ys ((letOf S.name t (useF e)).map Ltr.enc) → Q (.ref q) H')
theorem sc_Office_use : FnScope ["self", "thing", "found"] ["self", "thing"] (defScope sOffice_use) := ⟨rfl, rfl, rfl, by decide +kernel, rfl, by decide +kernel, by decide +kernel⟩
abbrev Ok_Office_use (P : Program) (w : World) (K : PySem.W.Frag) (mg : Str → Option Value) (base : Heap) : Prop := Has P w K mg base (L2.CX P w) 7 (fOffice_use K) ["self", "thing"] (spOffUse K)
theorem ok_Office_use {P : Program} {w : World} {K : PySem.W.Frag} {mg : Str → Option Value} {base : Heap} (T : Txt K mg) (h_Office_free : Ok_Office_free P w K mg base) (h_Office_write : Ok_Office_write P w K mg base) (h_Office_letters_of : Ok_Office_letters_of P w K mg base) : Ok_Office_use P w K mg base := by
  obtain ⟨fd, F⟩ := T.dOffice_use
  obtain ⟨fd_Office_free, G_Office_free, b_Office_free⟩ := h_Office_free
  obtain ⟨fd_Office_write, G_Office_write, b_Office_write⟩ := h_Office_write
  obtain ⟨fd_Office_letters_of, G_Office_letters_of, b_Office_letters_of⟩ := h_Office_letters_of
  refine ⟨fd, FunD.ok (CX := (L2.CX P w)) F sc_Office_use (fun vs H Q E h => ?_) (fun cdv A outer s H vs Q E hr h => ?_), FunD.bindsN F fun _ _ _ _ _ _ us hl => match us, hl with | [_, _], _ => rfl⟩
  · obtain ⟨L, S, t, rfl, _⟩ := h
    rfl
  · have hu := hu_of hr
    refine ⟨_, (pss_cons (ps_set (i := 2) sc_Office_use.nd rfl (Or.inl rfl) (pe_meth (pv 0) T.cl_Office T.m_Office_free G_Office_free (hr.mono (by decide)) b_Office_free .nil (passes_call (takes_of rfl rfl rfl rfl) (fun _ _ _ _ z => z)) (pa_cons (pv 1) pa_nil)))
      (pss_cons (ps_expr (pe_meth (pv 0) T.cl_Office T.m_Office_write G_Office_write (hr.mono (by decide)) b_Office_write .nil pass0 (pa_cons (pe_tup (pa_cons pe_str (pa_cons (pv 1) pa_nil))) pa_nil)))
      (pss_one (ps_ret (pe_meth (pv 0) T.cl_Office T.m_Office_letters_of G_Office_letters_of (hr.mono (by decide)) b_Office_letters_of .nil pass0 (pa_cons (pv 2) pa_nil)))))), ?_⟩
    obtain ⟨L, S, t, rfl, O, sm, kE, k⟩ := h
    obtain ⟨do_, hof⟩ := O.of
    refine ⟨_, rfl, L.of, do_, _, rfl, hof, ln_Office_free _ _ _, _, rfl, L, S, t, rfl, O, fun e he hh hc => ?_, kE⟩
    have ok := sm.ent t e he
    obtain ⟨de, hde⟩ := O.ent t e (gt_mem he)
    refine ⟨_, rfl, L.of, do_, _, rfl, hof, ln_Office_write _ _ _, ?_⟩
    refine ⟨_, rfl, line16 (by show 2 ≤ 16000000; decide), fun a ha => ?_⟩
    have s2 := Same.upd (H := H) (o := HO.tup [V.str "use", V.str t]) ha
    refine ⟨L, S, a, .use t, rfl, O.same s2, upd_same, ⟨e, he⟩, by have := sm.es; omega, by have := sm.ln; omega, ?_, by show 2 ≤ 1000; decide, fun H' L' S' ap st => ?_⟩
    · exact wds_cons (wd_str ⟨by decide +kernel, by decide +kernel⟩) (wds_cons (wd_str ok.tk) wds_nil)
    · have ap : S' = S.lnup.mod t useF := ap
      subst ap
      have st1 := (Stp.same O s2).trans st
      have he1 : (S.lnup.mod t useF).get t = some (useF e) := mod_same (S := S.lnup) _ he
      obtain ⟨d1, hof1⟩ := st1.at_.of
      rw [st1.ex.of] at hof1
      have ek := st1.ex.ea t (key_of he)
      refine ⟨_, rfl, L.of, d1, _, rfl, hof1, ln_Office_letters_of _ _ _, _, rfl, L', _, t, useF e, ?_, st1.at_, he1, ⟨fun _ => ok.wf.1 (by rw [hh]; decide), fun z => by cases z⟩, fun q H2 ys sm2 hq hq2 tp => ?_⟩
      · rw [ek, st1.ex.of]
        rfl
      · exact k e he hh hc H2 L' q ys (st1.trans (Stp.same st1.at_ sm2)) (st1.fr.none hq) (st1.at_.nofoot hq) hq2 tp
end LH
namespace LH
open PySem PySem.Spec PyProof.Rows L2
theorem room65 {k : Nat} {A : Around} (r : Room k A) : A.units + 65 < cLine := by
  have := r.un
  omega
/-! ### letters of small entries are small -/
theorem tk_tags : Tk "deed" ∧ Tk "receipt" ∧ Tk "notice" ∧ Tk "noted" ∧ Tk "claim" ∧ Tk "paid" := by
  refine ⟨⟨?_, ?_⟩, ⟨?_, ?_⟩, ⟨?_, ?_⟩, ⟨?_, ?_⟩, ⟨?_, ?_⟩, ⟨?_, ?_⟩⟩ <;> decide +kernel
def Wk (v : V) : Prop := (∃ x, v = .str x ∧ Tk x) ∨ ∃ i, v = .int i ∧ 0 ≤ i ∧ i ≤ 1000000000
theorem Wk.str {x : Str} (h : Tk x) : Wk (.str x) := .inl ⟨x, rfl, h⟩
theorem Wk.int {i : Int} (h0 : 0 ≤ i) (h1 : i ≤ 1000000000) : Wk (.int i) := .inr ⟨i, rfl, h0, h1⟩
theorem wk_nil : ∀ v ∈ ([] : List V), Wk v := fun v h => by cases h
theorem wk_cons {v : V} {l : List V} (h : Wk v) (k : ∀ u ∈ l, Wk u) : ∀ u ∈ v :: l, Wk u := fun u m => by
  rcases List.mem_cons.mp m with q | q
  · rw [q]
    exact h
  · exact k u q
theorem letOf_ok {o t : Str} {e : Ent} (ho : Tk o) (h : EOk t e) : ∀ l ∈ letOf o t e, LOk l := by
  intro l hl
  obtain ⟨t1, t2, t3, t4, t5, t6⟩ := tk_tags
  unfold letOf at hl
  rcases List.mem_append.mp hl with q | q
  · by_cases c : e.st = .given
    · rw [if_pos c] at q
      obtain ⟨hm, ehm⟩ := h.wf.1 (by rw [c]; decide)
      obtain ⟨rc, erc⟩ := h.wf.2 c
      have k1 := h.home _ ehm
      have k2 := h.rcv _ erc
      rcases List.mem_append.mp q with q | q
      · split at q
        · rw [List.mem_singleton.mp q, ehm, erc]
          exact ⟨wk_cons (.str t1) (wk_cons (.str ho) (wk_cons (.str k2) (wk_cons (.str h.tk) (wk_cons (.str k1) (wk_cons (.int h.q0 h.q1) (wk_cons (.int h.e0 h.e1) wk_nil))))))⟩
        · cases q
      · split at q
        · rw [List.mem_singleton.mp q, erc]
          exact ⟨wk_cons (.str t3) (wk_cons (.str ho) (wk_cons (.str k2) (wk_cons (.str h.tk) wk_nil)))⟩
        · cases q
    · rw [if_neg c] at q
      cases q
  · split at q
    · next c =>
      obtain ⟨hm, ehm⟩ := h.wf.1 (by rw [c.1]; decide)
      have k1 := h.home _ ehm
      rw [List.mem_singleton.mp q, ehm]
      exact ⟨wk_cons (.str t5) (wk_cons (.str ho) (wk_cons (.str k1) (wk_cons (.str h.tk) (wk_cons (.int h.q0 h.q1) wk_nil))))⟩
    · cases q
theorem pend_ok {S : OSt} (nd : (S.es.map (·.1)).Nodup) (ho : Tk S.name) (h : ∀ t e, S.get t = some e → EOk t e) : ∀ l ∈ S.pend, LOk l := by
  intro l hl
  unfold OSt.pend at hl
  obtain ⟨p, hp, q⟩ := List.mem_flatMap.mp hl
  exact letOf_ok ho (h p.1 p.2 (mem_gt nd hp)) l q
theorem new_ok {t : Str} (h : Tk t) : EOk t Ent.new := ⟨h, (fun _ z => by cases z), (fun _ z => by cases z), by decide, by decide, by decide, by decide, ⟨fun z => absurd rfl z, (fun z => by cases z)⟩⟩
theorem flag_ok {t : Str} {e : Ent} {b : Bool} (h : EOk t e) : EOk t (e.flag b) := ⟨h.tk, h.home, h.rcv, h.q0, h.q1, h.e0, h.e1, h.wf⟩
theorem know_ok {S : OSt} {t : Str} (ht : Tk t) (h : ∀ t e, S.get t = some e → EOk t e) : ∀ u e, (S.know t).get u = some e → EOk u e := by
  intro u e hu
  cases c : S.get t with
  | some x =>
    rw [know_some c] at hu
    exact h u e hu
  | none =>
    rw [know_none c, add_get _ _ c] at hu
    by_cases z : u = t
    · rw [if_pos z] at hu
      cases hu
      rw [z]
      exact new_ok ht
    · rw [if_neg z] at hu
      exact h u e hu
theorem setcb_ok {S : OSt} {c : Str → Bool} (h : ∀ t e, S.get t = some e → EOk t e) : ∀ u e, (S.setcb c).get u = some e → EOk u e := by
  intro u e hu
  rw [setcb_get] at hu
  cases q : S.get u with
  | none =>
    rw [q] at hu
    cases hu
  | some x =>
    rw [q] at hu
    cases hu
    exact flag_ok (h u x q)
theorem know_len (S : OSt) (t : Str) : (S.know t).es.length ≤ S.es.length + 1 := by
  cases c : S.get t with
  | some x =>
    rw [know_some c]
    omega
  | none =>
    rw [know_none c]
    show (S.es ++ [(t, Ent.new)]).length ≤ _
    rw [List.length_append]
    exact Nat.le_refl _
theorem setcb_len (S : OSt) (c : Str → Bool) : (S.setcb c).es.length = S.es.length := by
  unfold OSt.setcb
  exact List.length_map _
/-- what is new among the letters that wait -/
def fur (S S' : OSt) : List Ltr := S'.pend.filter fun l => !decide (l ∈ S.pend)
theorem pend_len (S : OSt) : S.pend.length ≤ 2 * S.es.length := flat_len S.es
def spOffRecall (K : PySem.W.Frag) : Sp := fun vs H Q E => ∃ (L : Lay) (S : OSt) (t : Str), vs = [.ref L.of, .str t] ∧ OffAt K H L S ∧ Small S ∧ Errs K H E ∧
  (∀ e, S.get t = some e → e.st ≠ .unk → e.cb = false → ∀ H' L' S' q ys, App S.lnup (.rcl t) S' → Stp K H L S H' L' S' → H q = none → ¬ Foot L' S' q → H' q = some (.lst ys) → Tups H' ys ((fur S S').map Ltr.enc) → Q (.ref q) H')
theorem sc_Office_recall : FnScope ["self", "thing", "found", "before", "letter"] ["self", "thing"] (defScope sOffice_recall) := ⟨rfl, rfl, rfl, by decide +kernel, rfl, by decide +kernel, by decide +kernel⟩
abbrev Ok_Office_recall (P : Program) (w : World) (K : PySem.W.Frag) (mg : Str → Option Value) (base : Heap) : Prop := Has P w K mg base (L2.CX P w) 7 (fOffice_recall K) ["self", "thing"] (spOffRecall K)
theorem ok_Office_recall {P : Program} {w : World} {K : PySem.W.Frag} {mg : Str → Option Value} {base : Heap} (T : Txt K mg) (h_Book_entry : Ok_Book_entry P w K mg base) (h_Office_pending : Ok_Office_pending P w K mg base) (h_Office_write : Ok_Office_write P w K mg base) : Ok_Office_recall P w K mg base := by
  obtain ⟨fd, F⟩ := T.dOffice_recall
  obtain ⟨fd_Book_entry, G_Book_entry, b_Book_entry⟩ := h_Book_entry
  obtain ⟨fd_Office_pending, G_Office_pending, b_Office_pending⟩ := h_Office_pending
  obtain ⟨fd_Office_write, G_Office_write, b_Office_write⟩ := h_Office_write
  refine ⟨fd, FunD.ok (CX := (L2.CX P w)) F sc_Office_recall (fun vs H Q E h => ?_) (fun cdv A outer s H vs Q E hr h => ?_), FunD.bindsN F fun _ _ _ _ _ _ us hl => match us, hl with | [_, _], _ => rfl⟩
  · obtain ⟨L, S, t, rfl, _⟩ := h
    rfl
  · have hu := hu_of hr
    refine ⟨_, (pss_cons (ps_set (i := 2) sc_Office_recall.nd rfl (Or.inl rfl) (pe_meth (pe_fld (pv 0) rfl) T.cl_Book T.m_Book_entry G_Book_entry (hr.mono (by decide)) b_Book_entry .nil pass0 (pa_cons (pv 1) pa_nil)))
      (pss_cons (ps_if (PW.pt (pw_or (pt_cmpR op_isN (pv 2) pe_non (nomark _)) (pw_or1 (pt_cmpR op_eq (pe_fld (pv 2) rfl) pe_str (nomark _))))) (pss_one (ps_raise rfl (takes_of rfl rfl rfl rfl) (SkE.pmk_own1 PySem.F.excBase_ValueError T.x_UnknownThing.1 T.g_UnknownThing T.x_UnknownThing.2.1 (raises_own T.x_UnknownThing.2.2.1 T.x_UnknownThing.2.2.2) (by exact rfl) (pv 1)))) pss_nil)
      (pss_cons (ps_if (pt_val (pe_fld (pv 2) rfl)) (pss_one (ps_raise rfl (takes_of rfl rfl rfl rfl) (SkE.pmk_own1 PySem.F.excBase_ValueError T.x_Frozen.1 T.g_Frozen T.x_Frozen.2.1 (raises_own T.x_Frozen.2.2.1 T.x_Frozen.2.2.2) (by exact rfl) (pv 1)))) pss_nil)
      (pss_cons (ps_set (i := 3) sc_Office_recall.nd rfl (Or.inr rfl) (pe_meth0 (pv 0) T.cl_Office T.m_Office_pending G_Office_pending (hr.mono (by decide)) b_Office_pending .nil pass0))
      (pss_cons (ps_expr (pe_meth (pv 0) T.cl_Office T.m_Office_write G_Office_write (hr.mono (by decide)) b_Office_write .nil pass0 (pa_cons (pe_tup (pa_cons pe_str (pa_cons (pv 1) pa_nil))) pa_nil)))
      (pss_one (ps_ret (pe_lc (own := [("letter", 4)]) (g := gName 4) (by rfl) sc_Office_recall.nd (pi_list (pe_meth0 (pv 0) T.cl_Office T.m_Office_pending G_Office_pending (hr.mono (by decide)) b_Office_pending .nil pass0)) (blkOk_by (own := [("letter", 4)]) (N := ["self", "thing", "found", "before", "letter"]) (sc := defScope sOffice_recall) (by decide +kernel)) (fun _ _ _ _ _ => (pg_name (i := 4) sc_Office_recall.nd rfl (Or.inl rfl))) (fun _ _ _ _ _ => (by exact (pts_one (pt_cmpR (op_notInDB (K := K) rfl (room65 hr)) (pv 4) (pv 3) (by rfl))))) (fun _ _ _ _ _ => (by exact (pv 4))))))))))), ?_⟩
    obtain ⟨L, S, t, rfl, O, sm, kE, k⟩ := h
    obtain ⟨do_, hof⟩ := O.of
    obtain ⟨b2, hb2⟩ := O.bk
    refine ⟨_, rfl, rd_Office_book T hof ⟨L.bk, b2, _, rfl, hb2, ln_Book_entry _ _ _ _ _, _, rfl, L, S, t, rfl, O, ?_⟩⟩
    cases ht : S.get t with
    | none =>
      rw [entV_none ht]
      exact ⟨_, rfl, rfl, true, rfl, iteT (iteT ⟨_, rfl, kE _ _ (.inr (.inr (.inl rfl))) Same.rfl'⟩)⟩
    | some e =>
      rw [entV_some ht]
      obtain ⟨de, he⟩ := O.ent t e (gt_mem ht)
      refine ⟨_, rfl, rfl, false, congrArg V.bl dnon_ref, iteF ⟨_, rfl, rd_Entry_state T he ⟨rfl, _, rfl, ?_⟩⟩⟩
      rw [stq_unk]
      by_cases c : e.st = .unk
      · exact ifT (decide_eq_true c) ⟨_, rfl, kE _ _ (.inr (.inr (.inl rfl))) Same.rfl'⟩
      refine ifF (decide_eq_false c) ⟨_, rfl, rd_Entry_is_recalled T he ⟨_, rfl, ?_⟩⟩
      cases c2 : e.cb with
      | true => exact ifT rfl ⟨_, rfl, kE _ _ (.inr (.inl rfl)) Same.rfl'⟩
      | false =>
        refine ifF rfl ?_
        refine ⟨_, rfl, L.of, do_, _, rfl, hof, ln_Office_pending _ _ _, L, S, rfl, O, by have := sm.es; omega, sm.wf, fun r1 H1 ys1 s1 hr1 hy1 tp1 => ?_⟩
        have O1 := O.same s1
        obtain ⟨d1, hof1⟩ := O1.of
        refine ⟨_, rfl, L.of, d1, _, rfl, hof1, ln_Office_write _ _ _, ?_⟩
        refine ⟨_, rfl, line16 (by show 2 ≤ 16000000; decide), fun a ha => ?_⟩
        have s2 := Same.upd (H := H1) (o := HO.tup [V.str "recall", V.str t]) ha
        have ok := sm.ent t e ht
        refine ⟨L, S, a, .rcl t, rfl, O1.same s2, upd_same, ⟨sm.kids, by have := sm.chs; omega⟩, by have := sm.es; omega, by have := sm.ln; omega, ?_, by show 2 ≤ 1000; decide, fun H2 L2 S2 ap st => ?_⟩
        · exact wds_cons (wd_str ⟨by decide +kernel, by decide +kernel⟩) (wds_cons (wd_str ok.tk) wds_nil)
        have st0 := (Stp.same O (Same.tr s1 s2)).trans st
        have nf : ¬ Foot L S r1 := fun f => by
          obtain ⟨o, q, _⟩ := O.foot f
          rw [hr1] at q
          cases q
        have hy2 : H2 r1 = some (.lst ys1) := st.fr.keep r1 _ (s2 _ _ hy1) nf
        have tp2 : Tups H2 ys1 (S.pend.map Ltr.enc) := tp1.mono fun a r q => st.fr.tup (O1.same s2) (s2 _ _ q)
        obtain ⟨c0, q1, q2, q3⟩ := id ap
        have ok2 : ∀ u e, S2.get u = some e → EOk u e := by
          rw [q3]
          exact setcb_ok (know_ok (S := S.lnup) ok.tk sm.ent)
        have len2 : S2.es.length ≤ 900000 := by
          rw [q3, setcb_len]
          have z1 := know_len S.lnup t
          have z2 : S.lnup.es.length = S.es.length := rfl
          have z3 := sm.es
          omega
        have nm2 : S2.name = S.name := st0.nm
        obtain ⟨d2, hof2⟩ := st0.at_.of
        rw [st0.ex.of] at hof2
        refine ⟨_, rfl, L.of, d2, _, rfl, hof2, ln_Office_pending _ _ _, L2, S2, by rw [st0.ex.of]; rfl, st0.at_, by omega, fun u e h => (ok2 u e h).wf, fun r3 H3 ys3 s3 hr3 hy3 tp3 => ?_⟩
        have l1 := pend_ok O.nd sm.name sm.ent
        have l2 := pend_ok st0.at_.nd (by rw [nm2]; exact sm.name) ok2
        have hyb := s3 _ _ hy2
        have tpb := tp2.same s3
        refine ⟨r3, rfl, ⟨_, SqL.of hy3⟩, fun D hD => lc_list (K := K) (a := r3) (xs := ys3) (fun i H' => ∃ zs, Same H3 H' ∧ H' D = some (.lst zs) ∧ Tups H' zs (((S2.pend.take i).filter fun l => !decide (l ∈ S.pend)).map Ltr.enc)) ⟨[], Same.upd hD, upd_same, trivial⟩ (fun i H' _ hh => ?_) (fun i x H' hx hh => ?_) (fun H' hh => ?_)⟩
        · obtain ⟨zs, sm4, _⟩ := hh
          exact SqL.of (sm4 _ _ hy3)
        · obtain ⟨zs, sm4, hD4, tz⟩ := hh
          obtain ⟨p, row, g1, g2, g3⟩ := tp3.get hx
          rw [List.getElem?_map] at g1
          obtain ⟨l, hl, g4⟩ := Option.map_eq_some_iff.mp g1
          subst g4 g2
          have tk := take_snoc hl
          have hlm := List.mem_of_getElem? hl
          have hp4 := sm4 _ _ g3
          refine ⟨rfl, _, rfl, _, rfl, notin_rule hp4 (sm4 _ _ hyb) (tpb.same sm4) (l2 l hlm) l1 ⟨_, rfl, ?_⟩⟩
          have hzl : zs.length ≤ 2000000 := by
            have a1 := tz.len
            rw [List.length_map] at a1
            have a2 := List.length_filter_le (fun l => !decide (l ∈ S.pend)) (S2.pend.take i)
            rw [List.length_take] at a2
            have a3 := pend_len S2
            omega
          by_cases c3 : l ∈ S.pend
          · refine ifF (by rw [decide_eq_true c3]; rfl) ⟨zs, sm4, hD4, ?_⟩
            have e1 : ([l] : List Ltr).filter (fun l => !decide (l ∈ S.pend)) = [] := by simp [c3]
            rw [tk, List.filter_append, e1, List.append_nil]
            exact tz
          · refine ifT (by rw [decide_eq_false c3]; rfl) ⟨_, rfl, zs, hD4, lt_line (by omega), zs ++ [.ref p], fun b o q => ?_, upd_same, ?_⟩
            · rw [upd_ne (ne_of_none q hD)]
              exact sm4 _ _ q
            · have e1 : ([l] : List Ltr).filter (fun l => !decide (l ∈ S.pend)) = [l] := by simp [c3]
              rw [tk, List.filter_append, e1, List.map_append]
              exact (tz.snoc hp4).mono fun a r q => (upd_ne (ne_of q hD4 (by intro z; cases z))).trans q
        · obtain ⟨zs, sm4, hD4, tz⟩ := hh
          have e1 : ys3.length = S2.pend.length := by rw [tp3.len, List.length_map]
          rw [e1, List.take_length] at tz
          exact k e ht c c2 H' L2 S2 D zs ap (st0.trans (Stp.same st0.at_ (Same.tr s3 sm4))) (st0.fr.none (Same.none s3 hD)) (st0.at_.nofoot (Same.none s3 hD)) hD4 tz
end LH
namespace LH
open PySem PySem.Spec PyProof.Rows L2
/-! ### letters come -/
def lineOf : Ltr → Line
  | .deed s _ t h q n => .got t h q n s
  | .receipt _ _ t n => .rcp t n
  | .notice s _ t => .ntc t s
  | .noted s _ t => .ntd t s
  | .claim s _ t q => .pay t s q
  | .paid _ _ t q => .pad t q
def ansOf (S S' : OSt) : Ltr → List Ltr
  | .deed s _ t _ _ n => [.receipt S.name s t n]
  | .notice s _ t => .noted S.name s t :: fur S S'
  | .claim s _ t q => if gt S'.ps t = some (s, q) then [.paid S.name s t q] else []
  | _ => []
theorem lineOf_note (l : Ltr) : (lineOf l).note := by cases l <;> trivial
theorem fit_note {S : OSt} (sm : Small S) {ln : Line} (hn : ln.note) (h : fitB S ln = true) : Fit S ln := by
  cases ln with
  | got => trivial
  | pay t o q =>
    have h : ((gt S.ps t).isNone && decide (1 ≤ q ∧ q ≤ 1000000000)) = true := h
    rw [Bool.and_eq_true] at h
    exact ⟨Option.isNone_iff_eq_none.mp h.1, by have := sm.ps; omega⟩
  | ntc t o => exact ⟨sm.kids, by have := sm.chs; omega⟩
  | rcp t n =>
    show ∃ e, S.get t = some e
    cases c : S.get t with
    | some e => exact ⟨e, rfl⟩
    | none =>
      have h : (match S.get t with | none => false | some e => decide (e.st = .given ∧ n = e.ep) && !e.rd) = true := h
      rw [c] at h
      cases h
  | ntd t o =>
    show ∃ e, S.get t = some e
    cases c : S.get t with
    | some e => exact ⟨e, rfl⟩
    | none =>
      have h : (match S.get t with | none => false | some e => decide (e.cb = true ∧ e.st = .given) && decide (some o = e.rcv) && !e.nt) = true := h
      rw [c] at h
      cases h
  | pad t q =>
    show ∃ e, S.get t = some e
    cases c : S.get t with
    | some e => exact ⟨e, rfl⟩
    | none =>
      have h : (match S.get t with | none => false | some e => decide (e.st = .used) && !e.pd && decide (q = e.qty)) = true := h
      rw [c] at h
      cases h
  | _ => exact False.elim hn
theorem LOk.str {l : Ltr} (h : LOk l) {x : Str} (m : V.str x ∈ l.enc) : Tk x := by
  rcases h.ok _ m with ⟨y, e, q⟩ | ⟨i, e, _⟩
  · cases e
    exact q
  · cases e
theorem LOk.int {l : Ltr} (h : LOk l) {i : Int} (m : V.int i ∈ l.enc) : 0 ≤ i ∧ i ≤ 1000000000 := by
  rcases h.ok _ m with ⟨y, e, q⟩ | ⟨j, e, q⟩
  · cases e
  · cases e
    exact q
theorem wd_int2 {i : Int} (h : 0 ≤ i ∧ i ≤ 1000000000) : Wd (.int i) := wd_int h.1 (by omega)
theorem line_wd {l : Ltr} (h : LOk l) : ∀ v ∈ (lineOf l).enc, Wd v := by
  cases l with
  | deed s r t hm q n => exact wds_cons (wd_str ⟨by decide +kernel, by decide +kernel⟩) (wds_cons (wd_str (h.str (x := t) (by simp [Ltr.enc]))) (wds_cons (wd_str (h.str (x := hm) (by simp [Ltr.enc]))) (wds_cons (wd_int2 (h.int (i := q) (by simp [Ltr.enc]))) (wds_cons (wd_int2 (h.int (i := n) (by simp [Ltr.enc]))) (wds_cons (wd_str (h.str (x := s) (by simp [Ltr.enc]))) wds_nil)))))
  | receipt s r t n => exact wds_cons (wd_str ⟨by decide +kernel, by decide +kernel⟩) (wds_cons (wd_str (h.str (x := t) (by simp [Ltr.enc]))) (wds_cons (wd_int2 (h.int (i := n) (by simp [Ltr.enc]))) wds_nil))
  | notice s r t => exact wds_cons (wd_str ⟨by decide +kernel, by decide +kernel⟩) (wds_cons (wd_str (h.str (x := t) (by simp [Ltr.enc]))) (wds_cons (wd_str (h.str (x := s) (by simp [Ltr.enc]))) wds_nil))
  | noted s r t => exact wds_cons (wd_str ⟨by decide +kernel, by decide +kernel⟩) (wds_cons (wd_str (h.str (x := t) (by simp [Ltr.enc]))) (wds_cons (wd_str (h.str (x := s) (by simp [Ltr.enc]))) wds_nil))
  | claim s r t q => exact wds_cons (wd_str ⟨by decide +kernel, by decide +kernel⟩) (wds_cons (wd_str (h.str (x := t) (by simp [Ltr.enc]))) (wds_cons (wd_str (h.str (x := s) (by simp [Ltr.enc]))) (wds_cons (wd_int2 (h.int (i := q) (by simp [Ltr.enc]))) wds_nil)))
  | paid s r t q => exact wds_cons (wd_str ⟨by decide +kernel, by decide +kernel⟩) (wds_cons (wd_str (h.str (x := t) (by simp [Ltr.enc]))) (wds_cons (wd_int2 (h.int (i := q) (by simp [Ltr.enc]))) wds_nil))
theorem line_len (l : Ltr) : (lineOf l).enc.length ≤ 1000 := by cases l <;> (simp only [lineOf, Line.enc, List.length_cons, List.length_nil]; decide)
def spRecv (kd : Ltr → Prop) (K : PySem.W.Frag) : Sp := fun vs H Q _ => ∃ (L : Lay) (S : OSt) (a : Addr) (l : Ltr), vs = [.ref L.of, .ref a] ∧ OffAt K H L S ∧ Small S ∧ H a = some (.tup l.enc) ∧ LOk l ∧ l.rcv = S.name ∧ kd l ∧
  ∀ H' L' S' z ys, Noted S (lineOf l) S' → Stp K H L S H' L' S' → H z = none → ¬ Foot L' S' z → H' z = some (.lst ys) → Tups H' ys ((ansOf S S' l).map Ltr.enc) → Q (.ref z) H'
theorem Small.es9 {S : OSt} (sm : Small S) : S.es.length ≤ 900000 := Nat.le_trans sm.es (by decide)
theorem Small.ln9 {S : OSt} (sm : Small S) : S.ln ≤ 10000000 := Nat.le_trans sm.ln (by decide)
theorem e2f {x y : V} (h : x = y) : (!decide (x = y)) = false := by
  rw [decide_eq_true h]
  rfl
def isDeed : Ltr → Prop
  | .deed .. => True
  | _ => False
def isNotice : Ltr → Prop
  | .notice .. => True
  | _ => False
def isClaim : Ltr → Prop
  | .claim .. => True
  | _ => False
theorem sc_Office_receive_deed : FnScope ["self", "letter", "word", "sender", "receiver", "thing", "home", "quantity", "epoch"] ["self", "letter"] (defScope sOffice_receive_deed) := ⟨rfl, rfl, rfl, by decide +kernel, rfl, by decide +kernel, by decide +kernel⟩
abbrev Ok_Office_receive_deed (P : Program) (w : World) (K : PySem.W.Frag) (mg : Str → Option Value) (base : Heap) : Prop := Has P w K mg base CX0 8 (fOffice_receive_deed K) ["self", "letter"] (spRecv isDeed K)
theorem ok_Office_receive_deed {P : Program} {w : World} {K : PySem.W.Frag} {mg : Str → Option Value} {base : Heap} (T : Txt K mg) (h_Office_note : Ok_Office_note P w K mg base) : Ok_Office_receive_deed P w K mg base := by
  obtain ⟨fd, F⟩ := T.dOffice_receive_deed
  obtain ⟨fd_Office_note, G_Office_note, b_Office_note⟩ := h_Office_note
  refine ⟨fd, FunD.ok (CX := CX0) F sc_Office_receive_deed (fun vs H Q E h => ?_) (fun cdv A outer s H vs Q E hr h => ?_), FunD.bindsN F fun _ _ _ _ _ _ us hl => match us, hl with | [_, _], _ => rfl⟩
  · obtain ⟨L, S, a, l, rfl, _⟩ := h
    rfl
  · have hu := hu_of hr
    refine ⟨_, PSs.nox (pss_cons (ps_asg (pv 1) (pg_tup rfl (pgs_cons (pg_name (i := 2) sc_Office_receive_deed.nd rfl (Or.inl rfl)) (pgs_cons (pg_name (i := 3) sc_Office_receive_deed.nd rfl (Or.inl rfl)) (pgs_cons (pg_name (i := 4) sc_Office_receive_deed.nd rfl (Or.inl rfl)) (pgs_cons (pg_name (i := 5) sc_Office_receive_deed.nd rfl (Or.inl rfl)) (pgs_cons (pg_name (i := 6) sc_Office_receive_deed.nd rfl (Or.inl rfl)) (pgs_cons (pg_name (i := 7) sc_Office_receive_deed.nd rfl (Or.inl rfl)) (pgs_cons (pg_name (i := 8) sc_Office_receive_deed.nd rfl (Or.inl rfl)) pgs_nil)))))))))
      (pss_cons (ps_expr (pe_meth (pv 0) T.cl_Office T.m_Office_note G_Office_note (hr.mono (by decide)) b_Office_note .nil pass0 (pa_cons (pe_tup (pa_cons pe_str (pa_cons (pv 5) (pa_cons (pv 6) (pa_cons (pv 7) (pa_cons (pv 8) (pa_cons (pv 3) pa_nil))))))) pa_nil)))
      (pss_one (ps_ret (pe_lst (pa_cons (pe_tup (pa_cons pe_str (pa_cons (pe_fld (pv 0) rfl) (pa_cons (pv 3) (pa_cons (pv 5) (pa_cons (pv 8) pa_nil)))))) pa_nil)))))), ?_⟩
    obtain ⟨L, S, a, l, rfl, O, sm, ha, hl, hrc, hk, k⟩ := h
    cases l with
    | deed s0 r t hm q n =>
      obtain ⟨do_, hof⟩ := O.of
      refine ⟨_, rfl, a, _, rfl, SqT.of ha, rfl, _, _, rfl, _, _, rfl, _, _, rfl, _, _, rfl, _, _, rfl, _, _, rfl, _, _, rfl, rfl, ?_⟩
      refine ⟨_, rfl, L.of, do_, _, rfl, hof, ln_Office_note _ _ _, ?_⟩
      refine ⟨_, rfl, _, rfl, _, rfl, _, rfl, _, rfl, line16 (by show 6 ≤ 16000000; decide), fun b hb => ?_⟩
      have s2 := Same.upd (H := H) (o := HO.tup (lineOf (Ltr.deed s0 r t hm q n)).enc) hb
      refine ⟨L, S, b, lineOf (Ltr.deed s0 r t hm q n), rfl, O.same s2, upd_same, lineOf_note _, sm.nm100, fit_note sm (lineOf_note _), sm.es9, sm.ln9, line_wd hl, line_len _, fun H' L' S' nt st => ?_⟩
      have st1 := (Stp.same O s2).trans st
      obtain ⟨d1, hof1⟩ := st1.at_.of
      rw [st1.ex.of] at hof1
      refine ⟨_, rfl, rd_Office_name T hof1 ⟨_, rfl, _, rfl, _, rfl, line16 (by show 5 ≤ 16000000; decide), fun c hc => ?_⟩⟩
      rw [st1.nm]
      have s3 := Same.upd (H := H') (o := HO.tup [V.str "receipt", V.str S.name, V.str s0, V.str t, V.int n]) hc
      have hc3 := upd_same (H := H') (a := c) (o := HO.tup [V.str "receipt", V.str S.name, V.str s0, V.str t, V.int n])
      refine ⟨line16 (by show 1 ≤ 16000000; decide), fun d hd => ?_⟩
      have s4 := Same.upd (o := HO.lst [V.ref c]) hd
      exact k _ L' S' d [.ref c] nt (st1.trans (Stp.same st1.at_ (Same.tr s3 s4))) (st1.fr.none (Same.none s3 hd)) (st1.at_.nofoot (Same.none s3 hd)) upd_same (Tups.one (s4 _ _ hc3))
    | _ => exact False.elim hk
/-- what a noted line leaves small -/
theorem noted_ntc {S S' : OSt} {t s : Str} (sm : Small S) (ht : Tk t) (h : Noted S (.ntc t s) S') : (∀ u e, S'.get u = some e → EOk u e) ∧ S'.es.length ≤ 900000 := by
  unfold Noted at h
  split at h
  · obtain ⟨c0, q1, q2, q3⟩ := h
    refine ⟨?_, ?_⟩
    · rw [q3]
      exact setcb_ok (know_ok (S := S.lnup) ht sm.ent)
    · rw [q3, setcb_len]
      have z1 := know_len S.lnup t
      have z2 : S.lnup.es.length = S.es.length := rfl
      have z3 := sm.es
      omega
  · rw [h]
    exact ⟨sm.ent, sm.es9⟩
theorem optp {K : PySem.W.Frag} {H : Hp} {S : OSt} {pt : Str → Addr} {t : Str} (hpt : ∀ p ∈ S.ps, H (pt p.1) = some (.tup [.str p.2.1, .int p.2.2])) {s : Str} {q : Int} (hs : PyData.strOk s = true) (hsp : ∀ p ∈ S.ps, PyData.strOk p.2.1 = true) {b : Addr} (hb : H b = some (.tup [.str s, .int q])) {Q : VK}
    (k : Q (.bl (decide (gt S.ps t = some (s, q)))) H) : rEqD K ((valV (payKV pt S.ps) (Sum.inr t : Key)).getD .non) (.ref b) H Q := by
  have d2 : Dp K H (.ref b) (.tuple [.str s, .int q]) := .tup (SqT.of hb) (.cons (.str s) (.cons (.int q) .nil))
  have sh : ∀ (x : Str) (i : Int), PyData.strOk x = true → SeqAt.shaped (.tuple [.str x, .int i]) = true := fun x i hx => by
    unfold SeqAt.shaped
    have h1 : PyData.canLay0 (.tuple [.str x, .int i]) = true := by
      show (PyData.strOk x && (true && true)) = true
      rw [hx]
      rfl
    have h2 : PyData.depth (.tuple [.str x, .int i]) = 1 := rfl
    rw [h1, h2]
    rfl
  rw [valV_pay]
  cases c : gt S.ps t with
  | none =>
    rw [c] at k
    refine ⟨.none, _, .non, d2, rfl, sh _ _ hs, ?_⟩
    have e : PyData.eqv .none (.tuple [.str s, .int q]) = false := by simp [PyData.eqv]
    rw [e]
    rw [decide_eq_false (by intro z; cases z)] at k
    exact k
  | some p =>
    rw [c] at k
    obtain ⟨o, i⟩ := p
    have hm := gt_mem c
    have hp := hpt _ hm
    refine ⟨.tuple [.str o, .int i], _, .tup (SqT.of hp) (.cons (.str o) (.cons (.int i) .nil)), d2, sh _ _ (hsp _ hm), sh _ _ hs, ?_⟩
    have e : PyData.eqv (.tuple [.str o, .int i]) (.tuple [.str s, .int q]) = decide (some (o, i) = some (s, q)) := by
      have e3 : (o == s) = decide (o = s) := by by_cases z : o = s <;> simp [z]
      have e4 : (i == q) = decide (i = q) := by by_cases z : i = q <;> simp [z]
      simp only [PyData.eqv, PyData.eqvAll, Option.some.injEq, Prod.mk.injEq, Bool.decide_and, Bool.and_true, e3, e4]
    rw [e]
    exact k
theorem sc_Office_receive_claim : FnScope ["self", "letter", "word", "sender", "receiver", "thing", "quantity"] ["self", "letter"] (defScope sOffice_receive_claim) := ⟨rfl, rfl, rfl, by decide +kernel, rfl, by decide +kernel, by decide +kernel⟩
abbrev Ok_Office_receive_claim (P : Program) (w : World) (K : PySem.W.Frag) (mg : Str → Option Value) (base : Heap) : Prop := Has P w K mg base CX0 8 (fOffice_receive_claim K) ["self", "letter"] (spRecv isClaim K)
theorem ok_Office_receive_claim {P : Program} {w : World} {K : PySem.W.Frag} {mg : Str → Option Value} {base : Heap} (T : Txt K mg) (h_Office_note : Ok_Office_note P w K mg base) : Ok_Office_receive_claim P w K mg base := by
  obtain ⟨fd, F⟩ := T.dOffice_receive_claim
  obtain ⟨fd_Office_note, G_Office_note, b_Office_note⟩ := h_Office_note
  refine ⟨fd, FunD.ok (CX := CX0) F sc_Office_receive_claim (fun vs H Q E h => ?_) (fun cdv A outer s H vs Q E hr h => ?_), FunD.bindsN F fun _ _ _ _ _ _ us hl => match us, hl with | [_, _], _ => rfl⟩
  · obtain ⟨L, S, a, l, rfl, _⟩ := h
    rfl
  · have hu := hu_of hr
    refine ⟨_, PSs.nox (pss_cons (ps_asg (pv 1) (pg_tup rfl (pgs_cons (pg_name (i := 2) sc_Office_receive_claim.nd rfl (Or.inl rfl)) (pgs_cons (pg_name (i := 3) sc_Office_receive_claim.nd rfl (Or.inl rfl)) (pgs_cons (pg_name (i := 4) sc_Office_receive_claim.nd rfl (Or.inl rfl)) (pgs_cons (pg_name (i := 5) sc_Office_receive_claim.nd rfl (Or.inl rfl)) (pgs_cons (pg_name (i := 6) sc_Office_receive_claim.nd rfl (Or.inl rfl)) pgs_nil)))))))
      (pss_cons (ps_expr (pe_meth (pv 0) T.cl_Office T.m_Office_note G_Office_note (hr.mono (by decide)) b_Office_note .nil pass0 (pa_cons (pe_tup (pa_cons pe_str (pa_cons (pv 5) (pa_cons (pv 3) (pa_cons (pv 6) pa_nil))))) pa_nil)))
      (pss_cons (ps_if (pt_cmpR (op_eqD hr.units) (pe_dget1 hu (pe_fld (pe_fld (pv 0) rfl) rfl) (pv 5) ⟨rfl, rfl, rfl, rfl⟩) (pe_tup (pa_cons (pv 3) (pa_cons (pv 6) pa_nil))) (nomark _)) (pss_one (ps_ret (pe_lst (pa_cons (pe_tup (pa_cons pe_str (pa_cons (pe_fld (pv 0) rfl) (pa_cons (pv 3) (pa_cons (pv 5) (pa_cons (pv 6) pa_nil)))))) pa_nil)))) pss_nil)
      (pss_one (ps_ret (pe_lst pa_nil)))))), ?_⟩
    obtain ⟨L, S, a, l, rfl, O, sm, ha, hl, hrc, hk, k⟩ := h
    cases l with
    | claim s0 r t q =>
      obtain ⟨do_, hof⟩ := O.of
      refine ⟨_, rfl, a, _, rfl, SqT.of ha, rfl, _, _, rfl, _, _, rfl, _, _, rfl, _, _, rfl, _, _, rfl, rfl, ?_⟩
      refine ⟨_, rfl, L.of, do_, _, rfl, hof, ln_Office_note _ _ _, ?_⟩
      refine ⟨_, rfl, _, rfl, _, rfl, line16 (by show 4 ≤ 16000000; decide), fun b hb => ?_⟩
      have s2 := Same.upd (H := H) (o := HO.tup (lineOf (Ltr.claim s0 r t q)).enc) hb
      refine ⟨L, S, b, lineOf (Ltr.claim s0 r t q), rfl, O.same s2, upd_same, lineOf_note _, sm.nm100, fit_note sm (lineOf_note _), sm.es9, sm.ln9, line_wd hl, line_len _, fun H' L' S' nt st => ?_⟩
      have st1 := (Stp.same O s2).trans st
      obtain ⟨d1, hof1⟩ := st1.at_.of
      rw [st1.ex.of] at hof1
      obtain ⟨b1, hb1⟩ := st1.at_.bk
      obtain ⟨pt, hp, hpt⟩ := st1.at_.pa
      have hsp : ∀ p ∈ S'.ps, PyData.strOk p.2.1 = true := by
        have nt := nt
        unfold Noted at nt
        split at nt
        · have nt : S' = { S.lnup with ps := S.ps ++ [(t, s0, q)] } := nt
          intro p hp
          rw [nt] at hp
          rcases List.mem_append.mp hp with m | m
          · exact (sm.pst p m).2
          · rw [List.mem_singleton.mp m]
            exact (hl.str (x := s0) (by simp [Ltr.enc])).2
        · rw [nt]
          exact fun p hp => (sm.pst p hp).2
      refine ⟨_, rfl, rd_Office_book T hof1 (rd_Book_payments T hb1 ⟨L'.pa, rfl, .inl ⟨_, .of hp⟩, _, rfl, _, DGet.k (k := Sum.inr t) hp, ?_⟩)⟩
      refine ⟨_, rfl, _, rfl, line16 (by show 2 ≤ 16000000; decide), fun c hc => ?_⟩
      have s3 := Same.upd (H := H') (o := HO.tup [V.str s0, V.int q]) hc
      refine optp (S := S') (fun p m => s3 _ _ (hpt p m)) (hl.str (x := s0) (by simp [Ltr.enc])).2 hsp upd_same ⟨_, rfl, ?_⟩
      have O3 := st1.at_.same s3
      obtain ⟨d3, hof3⟩ := O3.of
      rw [st1.ex.of] at hof3
      by_cases c1 : gt S'.ps t = some (s0, q)
      · have ea : ansOf S S' (.claim s0 r t q) = [.paid S.name s0 t q] := if_pos c1
        refine ifT (decide_eq_true c1) ?_
        refine ⟨_, rfl, rd_Office_name T hof3 ⟨_, rfl, _, rfl, _, rfl, line16 (by show 5 ≤ 16000000; decide), fun d hd => ?_⟩⟩
        rw [st1.nm]
        have s4 := Same.upd (H := upd H' c (HO.tup [V.str s0, V.int q])) (o := HO.tup [V.str "paid", V.str S.name, V.str s0, V.str t, V.int q]) hd
        have hd4 := upd_same (H := upd H' c (HO.tup [V.str s0, V.int q])) (a := d) (o := HO.tup [V.str "paid", V.str S.name, V.str s0, V.str t, V.int q])
        refine ⟨line16 (by show 1 ≤ 16000000; decide), fun e he => ?_⟩
        have s5 := Same.upd (o := HO.lst [V.ref d]) he
        refine k _ L' S' e [.ref d] nt (st1.trans (Stp.same st1.at_ (Same.tr (Same.tr s3 s4) s5))) (st1.fr.none (Same.none (Same.tr s3 s4) he)) (st1.at_.nofoot (Same.none (Same.tr s3 s4) he)) upd_same ?_
        rw [ea]
        exact Tups.one (s5 _ _ hd4)
      · have ea : ansOf S S' (.claim s0 r t q) = [] := if_neg c1
        refine ifF (decide_eq_false c1) ⟨Nat.zero_le _, fun e he => ?_⟩
        have s5 := Same.upd (o := HO.lst []) he
        refine k _ L' S' e [] nt (st1.trans (Stp.same st1.at_ (Same.tr s3 s5))) (st1.fr.none (Same.none s3 he)) (st1.at_.nofoot (Same.none s3 he)) upd_same ?_
        rw [ea]
        trivial
    | _ => exact False.elim hk
theorem sc_Office_receive_notice : FnScope ["self", "letter", "before", "further", "pending"] ["self", "letter"] (defScope sOffice_receive_notice) := ⟨rfl, rfl, rfl, by decide +kernel, rfl, by decide +kernel, by decide +kernel⟩
abbrev Ok_Office_receive_notice (P : Program) (w : World) (K : PySem.W.Frag) (mg : Str → Option Value) (base : Heap) : Prop := Has P w K mg base CX0 8 (fOffice_receive_notice K) ["self", "letter"] (spRecv isNotice K)
theorem ok_Office_receive_notice {P : Program} {w : World} {K : PySem.W.Frag} {mg : Str → Option Value} {base : Heap} (T : Txt K mg) (h_Office_pending : Ok_Office_pending P w K mg base) (h_Office_note : Ok_Office_note P w K mg base) : Ok_Office_receive_notice P w K mg base := by
  obtain ⟨fd, F⟩ := T.dOffice_receive_notice
  obtain ⟨fd_Office_pending, G_Office_pending, b_Office_pending⟩ := h_Office_pending
  obtain ⟨fd_Office_note, G_Office_note, b_Office_note⟩ := h_Office_note
  refine ⟨fd, FunD.ok (CX := CX0) F sc_Office_receive_notice (fun vs H Q E h => ?_) (fun cdv A outer s H vs Q E hr h => ?_), FunD.bindsN F fun _ _ _ _ _ _ us hl => match us, hl with | [_, _], _ => rfl⟩
  · obtain ⟨L, S, a, l, rfl, _⟩ := h
    rfl
  · have hu := hu_of hr
    refine ⟨_, PSs.nox (pss_cons (ps_set (i := 2) sc_Office_receive_notice.nd rfl (Or.inr rfl) (pe_meth0 (pv 0) T.cl_Office T.m_Office_pending G_Office_pending (hr.mono (by decide)) b_Office_pending .nil pass0))
      (pss_cons (ps_expr (pe_meth (pv 0) T.cl_Office T.m_Office_note G_Office_note (hr.mono (by decide)) b_Office_note .nil pass0 (pa_cons (pe_tup (pa_cons pe_str (pa_cons (pe_ix ix_tup (pv 1) pe_int (fun _ _ => rfl)) (pa_cons (pe_ix ix_tup (pv 1) pe_int (fun _ _ => rfl)) pa_nil)))) pa_nil)))
      (pss_cons (ps_setLc (i := 3) (own := [("pending", 4)]) (g := gName 4) (by rfl) sc_Office_receive_notice.nd rfl rfl (sw_true rfl rfl rfl (by decide +kernel)) (pi_list (pe_meth0 (pv 0) T.cl_Office T.m_Office_pending G_Office_pending (hr.mono (by decide)) b_Office_pending .nil pass0)) (blkOk_by (own := [("pending", 4)]) (N := ["self", "letter", "before", "further", "pending"]) (sc := defScope sOffice_receive_notice) (by decide +kernel)) (fun _ _ _ _ _ => (pg_name (i := 4) sc_Office_receive_notice.nd rfl (Or.inl rfl))) (fun _ _ _ _ _ => (by exact (pts_one (pt_cmpR (op_notInDB (K := K) rfl (room65 hr)) (pv 4) (pv 2) (by rfl))))) (fun _ _ _ _ _ => (by exact (pv 4))))
      (pss_one (ps_ret (pe_op op_cat (pe_lst (pa_cons (pe_tup (pa_cons pe_str (pa_cons (pe_fld (pv 0) rfl) (pa_cons (pe_ix ix_tup (pv 1) pe_int (fun _ _ => rfl)) (pa_cons (pe_ix ix_tup (pv 1) pe_int (fun _ _ => rfl)) pa_nil))))) pa_nil)) (pv 3))))))), ?_⟩
    obtain ⟨L, S, a, l, rfl, O, sm, ha, hl, hrc, hk, k⟩ := h
    cases l with
    | notice s0 r t =>
      obtain ⟨do_, hof⟩ := O.of
      refine ⟨_, rfl, L.of, do_, _, rfl, hof, ln_Office_pending _ _ _, L, S, rfl, O, by have := sm.es; omega, sm.wf, fun r1 H1 ys1 s1 hr1 hy1 tp1 => ?_⟩
      have O1 := O.same s1
      obtain ⟨d1, hof1⟩ := O1.of
      have ha1 := s1 _ _ ha
      refine ⟨_, rfl, L.of, d1, _, rfl, hof1, ln_Office_note _ _ _, ?_⟩
      refine ⟨_, rfl, ixT T ha1 (.str t) ⟨_, rfl, ixT T ha1 (.str s0) ⟨line16 (by show 3 ≤ 16000000; decide), fun b hb => ?_⟩⟩⟩
      have s2 := Same.upd (H := H1) (o := HO.tup (lineOf (Ltr.notice s0 r t)).enc) hb
      refine ⟨L, S, b, lineOf (Ltr.notice s0 r t), rfl, O1.same s2, upd_same, lineOf_note _, sm.nm100, fit_note sm (lineOf_note _), sm.es9, sm.ln9, line_wd hl, line_len _, fun H2 L2 S2 nt st => ?_⟩
      have st0 := (Stp.same O (Same.tr s1 s2)).trans st
      have nf : ¬ Foot L S r1 := fun f => by
        obtain ⟨o, q, _⟩ := O.foot f
        rw [hr1] at q
        cases q
      have hy2 : H2 r1 = some (.lst ys1) := st.fr.keep r1 _ (s2 _ _ hy1) nf
      have tp2 : Tups H2 ys1 (S.pend.map Ltr.enc) := tp1.mono fun a r q => st.fr.tup (O1.same s2) (s2 _ _ q)
      have ha2 : H2 a = some (.tup (Ltr.notice s0 r t).enc) := st0.fr.tup O ha
      obtain ⟨ok2, len2⟩ := noted_ntc sm (hl.str (x := t) (by simp [Ltr.enc])) nt
      have nm2 : S2.name = S.name := st0.nm
      obtain ⟨d2, hof2⟩ := st0.at_.of
      rw [st0.ex.of] at hof2
      refine ⟨_, rfl, L.of, d2, _, rfl, hof2, ln_Office_pending _ _ _, L2, S2, by rw [st0.ex.of]; rfl, st0.at_, by omega, fun u e h => (ok2 u e h).wf, fun r3 H3 ys3 s3 hr3 hy3 tp3 => ?_⟩
      have l1 := pend_ok O.nd sm.name sm.ent
      have l2 := pend_ok st0.at_.nd (by rw [nm2]; exact sm.name) ok2
      have hyb := s3 _ _ hy2
      have tpb := tp2.same s3
      refine ⟨r3, rfl, ⟨_, SqL.of hy3⟩, fun D hD => lc_list (K := K) (a := r3) (xs := ys3) (fun i H' => ∃ zs, Same H3 H' ∧ H' D = some (.lst zs) ∧ Tups H' zs (((S2.pend.take i).filter fun l => !decide (l ∈ S.pend)).map Ltr.enc)) ⟨[], Same.upd hD, upd_same, trivial⟩ (fun i H' _ hh => ?_) (fun i x H' hx hh => ?_) (fun H' hh => ?_)⟩
      · obtain ⟨zs, sm4, _⟩ := hh
        exact SqL.of (sm4 _ _ hy3)
      · obtain ⟨zs, sm4, hD4, tz⟩ := hh
        obtain ⟨p, row, g1, g2, g3⟩ := tp3.get hx
        rw [List.getElem?_map] at g1
        obtain ⟨l, hl, g4⟩ := Option.map_eq_some_iff.mp g1
        subst g4 g2
        have tk := take_snoc hl
        have hlm := List.mem_of_getElem? hl
        have hp4 := sm4 _ _ g3
        refine ⟨rfl, _, rfl, _, rfl, notin_rule hp4 (sm4 _ _ hyb) (tpb.same sm4) (l2 l hlm) l1 ⟨_, rfl, ?_⟩⟩
        have hzl : zs.length ≤ 2000000 := by
          have a1 := tz.len
          rw [List.length_map] at a1
          have a2 := List.length_filter_le (fun l => !decide (l ∈ S.pend)) (S2.pend.take i)
          rw [List.length_take] at a2
          have a3 := pend_len S2
          omega
        by_cases c3 : l ∈ S.pend
        · refine ifF (by rw [decide_eq_true c3]; rfl) ⟨zs, sm4, hD4, ?_⟩
          have e1 : ([l] : List Ltr).filter (fun l => !decide (l ∈ S.pend)) = [] := by simp [c3]
          rw [tk, List.filter_append, e1, List.append_nil]
          exact tz
        · refine ifT (by rw [decide_eq_false c3]; rfl) ⟨_, rfl, zs, hD4, lt_line (by omega), zs ++ [.ref p], fun b o q => ?_, upd_same, ?_⟩
          · rw [upd_ne (ne_of_none q hD)]
            exact sm4 _ _ q
          · have e1 : ([l] : List Ltr).filter (fun l => !decide (l ∈ S.pend)) = [l] := by simp [c3]
            rw [tk, List.filter_append, e1, List.map_append]
            exact (tz.snoc hp4).mono fun a r q => (upd_ne (ne_of q hD4 (by intro z; cases z))).trans q
      · obtain ⟨zs, sm4, hD4, tz⟩ := hh
        have e1 : ys3.length = S2.pend.length := by rw [tp3.len, List.length_map]
        rw [e1, List.take_length] at tz
        have ha4 := sm4 _ _ (s3 _ _ ha2)
        obtain ⟨d4, hof4⟩ := (st0.at_.same (Same.tr s3 sm4)).of
        rw [st0.ex.of] at hof4
        refine ⟨_, rfl, rd_Office_name T hof4 ⟨_, rfl, ixT T ha4 (.str s0) ⟨_, rfl, ixT T ha4 (.str t) ⟨line16 (by show 4 ≤ 16000000; decide), fun c hc => ?_⟩⟩⟩⟩
        rw [nm2]
        have s5 := Same.upd (H := H') (o := HO.tup [V.str "noted", V.str S.name, V.str s0, V.str t]) hc
        have hc5 := upd_same (H := H') (a := c) (o := HO.tup [V.str "noted", V.str S.name, V.str s0, V.str t])
        refine ⟨line16 (by show 1 ≤ 16000000; decide), fun d hd => ?_⟩
        have s6 := Same.upd (o := HO.lst [V.ref c]) hd
        have hd6 := upd_same (H := upd H' c (HO.tup [V.str "noted", V.str S.name, V.str s0, V.str t])) (a := d) (o := HO.lst [V.ref c])
        have hD6 := s6 _ _ (s5 _ _ hD4)
        refine ⟨_, rfl, d, D, [.ref c], zs, rfl, rfl, hd6, hD6, ?_, fun z hz => ?_⟩
        · have a1 := tz.len
          rw [List.length_map] at a1
          have a2 := List.length_filter_le (fun l => !decide (l ∈ S.pend)) S2.pend
          have a3 := pend_len S2
          refine line16 ?_
          show 1 + zs.length ≤ _
          omega
        · have s7 := Same.upd (o := HO.lst ([V.ref c] ++ zs)) hz
          have sa := Same.tr (Same.tr (Same.tr (Same.tr s3 sm4) s5) s6) s7
          refine k _ L2 S2 z _ nt (st0.trans (Stp.same st0.at_ sa)) (st0.fr.none (Same.none (Same.tr (Same.tr (Same.tr s3 sm4) s5) s6) hz)) (st0.at_.nofoot (Same.none (Same.tr (Same.tr (Same.tr s3 sm4) s5) s6) hz)) upd_same ?_
          exact ⟨⟨c, rfl, s7 _ _ (s6 _ _ hc5)⟩, tz.same (Same.tr (Same.tr s5 s6) s7)⟩
    | _ => exact False.elim hk
theorem sc_Office_receive : FnScope ["self", "letter", "word"] ["self", "letter"] (defScope sOffice_receive) := ⟨rfl, rfl, rfl, by decide +kernel, rfl, by decide +kernel, by decide +kernel⟩
abbrev Ok_Office_receive (P : Program) (w : World) (K : PySem.W.Frag) (mg : Str → Option Value) (base : Heap) : Prop := Has P w K mg base CX0 9 (fOffice_receive K) ["self", "letter"] (spRecv (fun _ => True) K)
theorem ok_Office_receive {P : Program} {w : World} {K : PySem.W.Frag} {mg : Str → Option Value} {base : Heap} (T : Txt K mg) (h_Office_receive_deed : Ok_Office_receive_deed P w K mg base) (h_Office_receive_notice : Ok_Office_receive_notice P w K mg base) (h_Office_receive_claim : Ok_Office_receive_claim P w K mg base) (h_Office_note : Ok_Office_note P w K mg base) : Ok_Office_receive P w K mg base := by
  obtain ⟨fd, F⟩ := T.dOffice_receive
  obtain ⟨fd_Office_receive_deed, G_Office_receive_deed, b_Office_receive_deed⟩ := h_Office_receive_deed
  obtain ⟨fd_Office_receive_notice, G_Office_receive_notice, b_Office_receive_notice⟩ := h_Office_receive_notice
  obtain ⟨fd_Office_receive_claim, G_Office_receive_claim, b_Office_receive_claim⟩ := h_Office_receive_claim
  obtain ⟨fd_Office_note, G_Office_note, b_Office_note⟩ := h_Office_note
  refine ⟨fd, FunD.ok (CX := CX0) F sc_Office_receive (fun vs H Q E h => ?_) (fun cdv A outer s H vs Q E hr h => ?_), FunD.bindsN F fun _ _ _ _ _ _ us hl => match us, hl with | [_, _], _ => rfl⟩
  · obtain ⟨L, S, a, l, rfl, _⟩ := h
    rfl
  · have hu := hu_of hr
    refine ⟨_, PSs.nox (pss_cons (ps_if (pt_cmpR op_ne (pe_ix ix_tup (pv 1) pe_int (fun _ _ => rfl)) (pe_fld (pv 0) rfl) (nomark _)) (pss_one ps_never) pss_nil)
      (pss_cons (ps_set (i := 2) sc_Office_receive.nd rfl (Or.inl rfl) (pe_ix ix_tup (pv 1) pe_int (fun _ _ => rfl)))
      (pss_cons (ps_if (pt_cmpR op_eq (pv 2) pe_str (nomark _)) (pss_one (ps_ret (pe_meth (pv 0) T.cl_Office T.m_Office_receive_deed G_Office_receive_deed (hr.mono (by decide)) b_Office_receive_deed .nil pass0 (pa_cons (pv 1) pa_nil)))) pss_nil)
      (pss_cons (ps_if (pt_cmpR op_eq (pv 2) pe_str (nomark _)) (pss_one (ps_ret (pe_meth (pv 0) T.cl_Office T.m_Office_receive_notice G_Office_receive_notice (hr.mono (by decide)) b_Office_receive_notice .nil pass0 (pa_cons (pv 1) pa_nil)))) pss_nil)
      (pss_cons (ps_if (pt_cmpR op_eq (pv 2) pe_str (nomark _)) (pss_one (ps_ret (pe_meth (pv 0) T.cl_Office T.m_Office_receive_claim G_Office_receive_claim (hr.mono (by decide)) b_Office_receive_claim .nil pass0 (pa_cons (pv 1) pa_nil)))) pss_nil)
      (pss_cons (ps_if (pt_cmpR op_eq (pv 2) pe_str (nomark _)) (pss_one (ps_expr (pe_meth (pv 0) T.cl_Office T.m_Office_note G_Office_note (hr.mono (by decide)) b_Office_note .nil pass0 (pa_cons (pe_tup (pa_cons pe_str (pa_cons (pe_ix ix_tup (pv 1) pe_int (fun _ _ => rfl)) (pa_cons (pe_ix ix_tup (pv 1) pe_int (fun _ _ => rfl)) pa_nil)))) pa_nil)))) (pss_one (ps_if (pt_cmpR op_eq (pv 2) pe_str (nomark _)) (pss_one (ps_expr (pe_meth (pv 0) T.cl_Office T.m_Office_note G_Office_note (hr.mono (by decide)) b_Office_note .nil pass0 (pa_cons (pe_tup (pa_cons pe_str (pa_cons (pe_ix ix_tup (pv 1) pe_int (fun _ _ => rfl)) (pa_cons (pe_ix ix_tup (pv 1) pe_int (fun _ _ => rfl)) pa_nil)))) pa_nil)))) (pss_one (ps_expr (pe_meth (pv 0) T.cl_Office T.m_Office_note G_Office_note (hr.mono (by decide)) b_Office_note .nil pass0 (pa_cons (pe_tup (pa_cons pe_str (pa_cons (pe_ix ix_tup (pv 1) pe_int (fun _ _ => rfl)) (pa_cons (pe_ix ix_tup (pv 1) pe_int (fun _ _ => rfl)) pa_nil)))) pa_nil)))))))
      (pss_one (ps_ret (pe_lst pa_nil))))))))), ?_⟩
    obtain ⟨L, S, a, l, rfl, O, sm, ha, hl, hrc, _, k⟩ := h
    obtain ⟨do_, hof⟩ := O.of
    cases l with
    | deed s0 r t hm q n =>
      have hrc : r = S.name := hrc
      refine ⟨_, rfl, ixT T ha (.str r) ⟨_, rfl, rd_Office_name T hof ⟨rfl, _, rfl, ?_⟩⟩⟩
      refine ifF (e2f (congrArg V.str hrc)) ?_
      refine ⟨_, rfl, ixT T ha (.str "deed") ?_⟩
      refine ⟨_, rfl, rfl, _, rfl, ifT (by decide +kernel) ?_⟩
      exact ⟨_, rfl, L.of, do_, _, rfl, hof, ln_Office_receive_deed _ _ _, _, rfl, L, S, a, _, rfl, O, sm, ha, hl, hrc, trivial, fun H' L' S' z ys nt st hz hf hy tp => k H' L' S' z ys nt st hz hf hy tp⟩
    | notice s0 r t =>
      have hrc : r = S.name := hrc
      refine ⟨_, rfl, ixT T ha (.str r) ⟨_, rfl, rd_Office_name T hof ⟨rfl, _, rfl, ?_⟩⟩⟩
      refine ifF (e2f (congrArg V.str hrc)) ?_
      refine ⟨_, rfl, ixT T ha (.str "notice") ?_⟩
      refine ⟨_, rfl, rfl, _, rfl, ifF (by decide +kernel) ?_⟩
      refine ⟨_, rfl, rfl, _, rfl, ifT (by decide +kernel) ?_⟩
      exact ⟨_, rfl, L.of, do_, _, rfl, hof, ln_Office_receive_notice _ _ _, _, rfl, L, S, a, _, rfl, O, sm, ha, hl, hrc, trivial, fun H' L' S' z ys nt st hz hf hy tp => k H' L' S' z ys nt st hz hf hy tp⟩
    | claim s0 r t q =>
      have hrc : r = S.name := hrc
      refine ⟨_, rfl, ixT T ha (.str r) ⟨_, rfl, rd_Office_name T hof ⟨rfl, _, rfl, ?_⟩⟩⟩
      refine ifF (e2f (congrArg V.str hrc)) ?_
      refine ⟨_, rfl, ixT T ha (.str "claim") ?_⟩
      refine ⟨_, rfl, rfl, _, rfl, ifF (by decide +kernel) ?_⟩
      refine ⟨_, rfl, rfl, _, rfl, ifF (by decide +kernel) ?_⟩
      refine ⟨_, rfl, rfl, _, rfl, ifT (by decide +kernel) ?_⟩
      exact ⟨_, rfl, L.of, do_, _, rfl, hof, ln_Office_receive_claim _ _ _, _, rfl, L, S, a, _, rfl, O, sm, ha, hl, hrc, trivial, fun H' L' S' z ys nt st hz hf hy tp => k H' L' S' z ys nt st hz hf hy tp⟩
    | receipt s0 r t n =>
      have hrc : r = S.name := hrc
      refine ⟨_, rfl, ixT T ha (.str r) ⟨_, rfl, rd_Office_name T hof ⟨rfl, _, rfl, ?_⟩⟩⟩
      refine ifF (e2f (congrArg V.str hrc)) ?_
      refine ⟨_, rfl, ixT T ha (.str "receipt") ?_⟩
      refine ⟨_, rfl, rfl, _, rfl, ifF (by decide +kernel) ?_⟩
      refine ⟨_, rfl, rfl, _, rfl, ifF (by decide +kernel) ?_⟩
      refine ⟨_, rfl, rfl, _, rfl, ifF (by decide +kernel) ?_⟩
      refine ⟨_, rfl, rfl, _, rfl, ifT (by decide +kernel) ?_⟩
      refine ⟨_, rfl, L.of, do_, _, rfl, hof, ln_Office_note _ _ _, ?_⟩
      refine ⟨_, rfl, ixT T ha (.str t) ⟨_, rfl, ixT T ha (.int n) ⟨line16 (by show 3 ≤ 16000000; decide), fun b hb => ?_⟩⟩⟩
      have s2 := Same.upd (H := H) (o := HO.tup (lineOf (Ltr.receipt s0 r t n)).enc) hb
      refine ⟨L, S, b, lineOf (Ltr.receipt s0 r t n), rfl, O.same s2, upd_same, lineOf_note _, sm.nm100, fit_note sm (lineOf_note _), sm.es9, sm.ln9, line_wd hl, line_len _, fun H2 L2 S2 nt st => ?_⟩
      have st0 := (Stp.same O s2).trans st
      refine ⟨Nat.zero_le _, fun e he => ?_⟩
      have s5 := Same.upd (o := HO.lst []) he
      exact k _ L2 S2 e [] nt (st0.trans (Stp.same st0.at_ s5)) (st0.fr.none he) (st0.at_.nofoot he) upd_same trivial
    | noted s0 r t =>
      have hrc : r = S.name := hrc
      refine ⟨_, rfl, ixT T ha (.str r) ⟨_, rfl, rd_Office_name T hof ⟨rfl, _, rfl, ?_⟩⟩⟩
      refine ifF (e2f (congrArg V.str hrc)) ?_
      refine ⟨_, rfl, ixT T ha (.str "noted") ?_⟩
      refine ⟨_, rfl, rfl, _, rfl, ifF (by decide +kernel) ?_⟩
      refine ⟨_, rfl, rfl, _, rfl, ifF (by decide +kernel) ?_⟩
      refine ⟨_, rfl, rfl, _, rfl, ifF (by decide +kernel) ?_⟩
      refine ⟨_, rfl, rfl, _, rfl, ifF (by decide +kernel) ?_⟩
      refine ⟨_, rfl, rfl, _, rfl, ifT (by decide +kernel) ?_⟩
      refine ⟨_, rfl, L.of, do_, _, rfl, hof, ln_Office_note _ _ _, ?_⟩
      refine ⟨_, rfl, ixT T ha (.str t) ⟨_, rfl, ixT T ha (.str s0) ⟨line16 (by show 3 ≤ 16000000; decide), fun b hb => ?_⟩⟩⟩
      have s2 := Same.upd (H := H) (o := HO.tup (lineOf (Ltr.noted s0 r t)).enc) hb
      refine ⟨L, S, b, lineOf (Ltr.noted s0 r t), rfl, O.same s2, upd_same, lineOf_note _, sm.nm100, fit_note sm (lineOf_note _), sm.es9, sm.ln9, line_wd hl, line_len _, fun H2 L2 S2 nt st => ?_⟩
      have st0 := (Stp.same O s2).trans st
      refine ⟨Nat.zero_le _, fun e he => ?_⟩
      have s5 := Same.upd (o := HO.lst []) he
      exact k _ L2 S2 e [] nt (st0.trans (Stp.same st0.at_ s5)) (st0.fr.none he) (st0.at_.nofoot he) upd_same trivial
    | paid s0 r t q =>
      have hrc : r = S.name := hrc
      refine ⟨_, rfl, ixT T ha (.str r) ⟨_, rfl, rd_Office_name T hof ⟨rfl, _, rfl, ?_⟩⟩⟩
      refine ifF (e2f (congrArg V.str hrc)) ?_
      refine ⟨_, rfl, ixT T ha (.str "paid") ?_⟩
      refine ⟨_, rfl, rfl, _, rfl, ifF (by decide +kernel) ?_⟩
      refine ⟨_, rfl, rfl, _, rfl, ifF (by decide +kernel) ?_⟩
      refine ⟨_, rfl, rfl, _, rfl, ifF (by decide +kernel) ?_⟩
      refine ⟨_, rfl, rfl, _, rfl, ifF (by decide +kernel) ?_⟩
      refine ⟨_, rfl, rfl, _, rfl, ifF (by decide +kernel) ?_⟩
      refine ⟨_, rfl, L.of, do_, _, rfl, hof, ln_Office_note _ _ _, ?_⟩
      refine ⟨_, rfl, ixT T ha (.str t) ⟨_, rfl, ixT T ha (.int q) ⟨line16 (by show 3 ≤ 16000000; decide), fun b hb => ?_⟩⟩⟩
      have s2 := Same.upd (H := H) (o := HO.tup (lineOf (Ltr.paid s0 r t q)).enc) hb
      refine ⟨L, S, b, lineOf (Ltr.paid s0 r t q), rfl, O.same s2, upd_same, lineOf_note _, sm.nm100, fit_note sm (lineOf_note _), sm.es9, sm.ln9, line_wd hl, line_len _, fun H2 L2 S2 nt st => ?_⟩
      have st0 := (Stp.same O s2).trans st
      refine ⟨Nat.zero_le _, fun e he => ?_⟩
      have s5 := Same.upd (o := HO.lst []) he
      exact k _ L2 S2 e [] nt (st0.trans (Stp.same st0.at_ s5)) (st0.fr.none he) (st0.at_.nofoot he) upd_same trivial
end LH
namespace LH
open PySem PySem.Spec PyProof.Rows L2
/-! ### splitting -/
def idsL (o : Str) (nx : Int) (n : Nat) : List Str := (List.range n).map fun (k : Nat) => idf o (nx + (k : Int))
theorem idsV_eq (o : Str) (nx : Int) (n : Nat) : idsV o nx n = (idsL o nx n).map V.str := by
  unfold idsV idsL
  rw [List.map_map]
  rfl
theorem idsL_len (o : Str) (nx : Int) (n : Nat) : (idsL o nx n).length = n := by
  unfold idsL
  rw [List.length_map, List.length_range]
theorem idsL_mem {o : Str} {nx : Int} {n : Nat} {t : Str} (h : t ∈ idsL o nx n) : ∃ k : Nat, k < n ∧ t = idf o (nx + (k : Int)) := by
  obtain ⟨k, hk, e⟩ := List.mem_map.mp h
  exact ⟨k, List.mem_range.mp hk, e.symm⟩
theorem idsL_nd {o : Str} (ho : o ∈ names4) {nx : Int} (h0 : 0 ≤ nx) (h1 : nx ≤ 1000000) {n : Nat} (hn : n ≤ 1000) : (idsL o nx n).Nodup := by
  unfold idsL
  rw [List.Nodup, List.pairwise_map]
  refine List.Pairwise.imp_of_mem ?_ (List.nodup_range (n := n))
  intro a b ha hb ne e
  rw [List.mem_range] at ha hb
  have := (idf_inj ho ho (by omega) (by omega) (by omega) (by omega) e).2
  omega
def psOf (o : Str) (nx : Int) (ns : List Int) : List (Str × Int) := (idsL o nx ns.length).zip ns
theorem psOf_len (o : Str) (nx : Int) (ns : List Int) : (psOf o nx ns).length = ns.length := by
  unfold psOf
  rw [List.length_zip, idsL_len, Nat.min_self]
theorem psOf_ids (o : Str) (nx : Int) (ns : List Int) : (psOf o nx ns).map (·.1) = idsL o nx ns.length := by
  unfold psOf
  exact List.map_fst_zip (by rw [idsL_len]; exact Nat.le_refl _)
theorem psOf_qs (o : Str) (nx : Int) (ns : List Int) : (psOf o nx ns).map (·.2) = ns := by
  unfold psOf
  exact List.map_snd_zip (by rw [idsL_len]; exact Nat.le_refl _)
theorem flatP_len : ∀ ps : List (Str × Int), (flatP ps).length = 2 * ps.length
  | [] => rfl
  | p :: r => by
    have ih := flatP_len r
    have e : flatP (p :: r) = [V.str p.1, V.int p.2] ++ flatP r := rfl
    rw [e]
    simp only [List.length_append, List.length_cons, List.length_nil, ih]
    omega
theorem flatP_wd : ∀ {ps : List (Str × Int)}, (∀ p ∈ ps, Tk p.1 ∧ 0 ≤ p.2 ∧ p.2 ≤ 1000000000) → ∀ v ∈ flatP ps, Wd v
  | [], _ => wds_nil
  | p :: r, h => by
    obtain ⟨h1, h2, h3⟩ := h p List.mem_cons_self
    exact wds_cons (wd_str h1) (wds_cons (wd_int h2 (by omega)) (flatP_wd fun q hq => h q (List.mem_cons_of_mem _ hq)))
def spOffSplit (K : PySem.W.Frag) : Sp := fun vs H Q E => ∃ (L : Lay) (S : OSt) (t : Str) (z : Addr) (ns : List Int), vs = [.ref L.of, .str t, .ref z] ∧ OffAt K H L S ∧ Small S ∧ H z = some (.lst (ns.map V.int)) ∧ ns.length ≤ 100 ∧ Errs K H E ∧
  (∀ e, S.get t = some e → e.st = .held → e.cb = false → (∀ n ∈ ns, 1 ≤ n ∧ n ≤ 1000000000) → 2 ≤ ns.length → ns.sum = e.qty → ∀ H' L' q, Stp K H L S H' L' (S.lnup.split_ t e.home (psOf S.name S.nx ns)) → H q = none → ¬ Foot L' (S.lnup.split_ t e.home (psOf S.name S.nx ns)) q →
    H' q = some (.lst ((idsL S.name S.nx ns.length).map V.str)) → Q (.ref q) H')
theorem sc_Office_split : FnScope ["self", "thing", "sizes", "found", "size", "ids", "line", "part"] ["self", "thing", "sizes"] (defScope sOffice_split) := ⟨rfl, rfl, rfl, by decide +kernel, rfl, by decide +kernel, by decide +kernel⟩
abbrev Ok_Office_split (P : Program) (w : World) (K : PySem.W.Frag) (mg : Str → Option Value) (base : Heap) : Prop := Has P w K mg base (L2.CX P w) 7 (fOffice_split K) ["self", "thing", "sizes"] (spOffSplit K)
theorem ok_Office_split {P : Program} {w : World} {K : PySem.W.Frag} {mg : Str → Option Value} {base : Heap} (T : Txt K mg) (h_Office_free : Ok_Office_free P w K mg base) (h_check_quantity : Ok_check_quantity P w K mg base) (h_Book_new_ids : Ok_Book_new_ids P w K mg base) (h_Office_write : Ok_Office_write P w K mg base) : Ok_Office_split P w K mg base := by
  obtain ⟨fd, F⟩ := T.dOffice_split
  obtain ⟨fd_Office_free, G_Office_free, b_Office_free⟩ := h_Office_free
  obtain ⟨fd_check_quantity, G_check_quantity, b_check_quantity⟩ := h_check_quantity
  have k_check_quantity : PySem.W.keepIn K (.ref (f_check_quantity K)) = true := by
    obtain ⟨_, q⟩ := T.d_check_quantity
    exact q.kp
  obtain ⟨fd_Book_new_ids, G_Book_new_ids, b_Book_new_ids⟩ := h_Book_new_ids
  obtain ⟨fd_Office_write, G_Office_write, b_Office_write⟩ := h_Office_write
  refine ⟨fd, FunD.ok (CX := (L2.CX P w)) F sc_Office_split (fun vs H Q E h => ?_) (fun cdv A outer s H vs Q E hr h => ?_), FunD.bindsN F fun _ _ _ _ _ _ us hl => match us, hl with | [_, _, _], _ => rfl⟩
  · obtain ⟨L, S, t, z, ns, rfl, _⟩ := h
    rfl
  · have hu := hu_of hr
    refine ⟨_, (pss_cons (ps_set (i := 3) sc_Office_split.nd rfl (Or.inl rfl) (pe_meth (pv 0) T.cl_Office T.m_Office_free G_Office_free (hr.mono (by decide)) b_Office_free .nil (passes_call (takes_of rfl rfl rfl rfl) (fun _ _ _ _ z => z)) (pa_cons (pv 1) pa_nil)))
      (pss_cons (ps_for (passes_of rfl) rfl (pi_list (pv 2)) (pg_name (i := 4) sc_Office_split.nd rfl (Or.inl rfl)) (pss_one (ps_expr (pe_call G_check_quantity (hr.mono (by decide)) rfl T.g_check_quantity k_check_quantity b_check_quantity .nil (passes_call (takes_of rfl rfl rfl rfl) (fun _ _ _ _ z => z)) (pa_cons (pv 4) pa_nil)))))
      (pss_cons (ps_if (PW.pt (pw_or (pt_cmpR op_lt (pe_callB call_len_seq (by rfl) T.b_len PySem.boot_len (pa_cons (pv 2) pa_nil)) pe_int (nomark _)) (pw_or1 (pt_cmpR op_ne (pe_callB (cr_sum rfl) (by rfl) T.b_sum (by decide +kernel) (pa_cons (pv 2) pa_nil)) (pe_fld (pv 3) rfl) (nomark _))))) (pss_one (ps_raise rfl (takes_of rfl rfl rfl rfl) (SkE.pmk_own1 PySem.F.excBase_ValueError T.x_InvalidQuantity.1 T.g_InvalidQuantity T.x_InvalidQuantity.2.1 (raises_own T.x_InvalidQuantity.2.2.1 T.x_InvalidQuantity.2.2.2) (by exact rfl) pe_str))) pss_nil)
      (pss_cons (ps_set (i := 5) sc_Office_split.nd rfl (Or.inl rfl) (pe_meth (pe_fld (pv 0) rfl) T.cl_Book T.m_Book_new_ids G_Book_new_ids (hr.mono (by decide)) b_Book_new_ids .nil pass0 (pa_cons (pe_callB call_len_seq (by rfl) T.b_len PySem.boot_len (pa_cons (pv 2) pa_nil)) pa_nil)))
      (pss_cons (ps_set (i := 6) sc_Office_split.nd rfl (Or.inl rfl) (pe_lst (pa_cons pe_str (pa_cons (pv 1) pa_nil))))
      (pss_cons (ps_for (passes_of rfl) rfl (RZ.pi_zipA (by rfl) T.b_zip (pa_cons (pv 5) (pa_cons (pv 2) pa_nil))) (pg_tup rfl (pgs_cons (pg_name (i := 7) sc_Office_split.nd rfl (Or.inl rfl)) (pgs_cons (pg_name (i := 4) sc_Office_split.nd rfl (Or.inl rfl)) pgs_nil))) (pss_cons (ps_expr (pe_bm PySem.F.plainAttrs_list PySem.F.slot_list_append PySem.F.type_list_append mt_append (pv 6) (pa_cons (pv 7) pa_nil)))
      (pss_one (ps_expr (pe_bm PySem.F.plainAttrs_list PySem.F.slot_list_append PySem.F.type_list_append mt_append (pv 6) (pa_cons (pv 4) pa_nil))))))
      (pss_cons (ps_expr (pe_meth (pv 0) T.cl_Office T.m_Office_write G_Office_write (hr.mono (by decide)) b_Office_write .nil pass0 (pa_cons (pe_callTy call_tuple_of (by rfl) T.b_tuple (by decide +kernel) (pa_cons (pv 6) pa_nil)) pa_nil)))
      (pss_one (ps_ret (pv 5)))))))))), ?_⟩
    obtain ⟨L, S, t, z, ns, rfl, O, sm, hz, hn, kE, k⟩ := h
    obtain ⟨do_, hof⟩ := O.of
    obtain ⟨b2, hb2⟩ := O.bk
    refine ⟨_, rfl, L.of, do_, _, rfl, hof, ln_Office_free _ _ _, _, rfl, L, S, t, rfl, O, fun e he hh hc => ?_, kE⟩
    have ok := sm.ent t e he
    obtain ⟨de, hde⟩ := O.ent t e (gt_mem he)
    refine ⟨_, rfl, z, rfl, ⟨_, SqL.of hz⟩, for_list (K := K) (a := z) (xs := ns.map V.int)
      (fun i σ H' => H' = H ∧ ∃ v4, σ = [some (.ref L.of), some (.str t), some (.ref z), some (.ref (L.ea t)), v4, none, none, none] ∧ ∀ n ∈ ns.take i, 1 ≤ n ∧ n ≤ 1000000000) ⟨rfl, _, rfl, fun n m => by cases m⟩ ?_ ?_ ?_⟩
    · rintro i σ H' _ ⟨rfl, _⟩
      exact SqL.of hz
    · rintro i x σ H' hx ⟨rfl, v4, rfl, hall⟩
      rw [List.getElem?_map] at hx
      obtain ⟨n, hn1, rfl⟩ := Option.map_eq_some_iff.mp hx
      refine ⟨_, rfl, n, rfl, fun hq => ⟨rfl, _, rfl, ?_⟩, fun _ => kE _ _ (.inr (.inr (.inr (.inl rfl)))) Same.rfl'⟩
      intro m hm
      rw [take_snoc hn1] at hm
      rcases List.mem_append.mp hm with q | q
      · exact hall m q
      · rw [List.mem_singleton.mp q]
        exact hq
    · rintro σ H' ⟨rfl, v4, rfl, hall⟩
      rw [List.length_map, List.take_length] at hall
      refine ⟨_, rfl, z, _, rfl, .inl (SqL.of hz), _, _, rfl, rfl, _, rfl, ?_⟩
      rw [List.length_map]
      by_cases c1 : ns.length < 2
      · exact ifT (decide_eq_true (by omega)) (iteT (kE _ _ (.inr (.inr (.inr (.inl rfl)))) Same.rfl'))
      refine ifF (decide_eq_false (by omega)) ?_
      refine ⟨_, rfl, z, ns, rfl, SqL.of hz, _, rfl, rd_Entry_quantity T hde ⟨rfl, _, rfl, ?_⟩⟩
      rw [dint]
      by_cases c2 : ns.sum = e.qty
      rotate_left
      · exact ifT (by rw [decide_eq_false c2]; rfl) (kE _ _ (.inr (.inr (.inr (.inl rfl)))) Same.rfl')
      refine ifF (by rw [decide_eq_true c2]; rfl) ?_
      have x0 := sm.nx0
      have x1 := sm.nx1
      refine ⟨_, rfl, rd_Office_book T hof ⟨L.bk, b2, _, rfl, hb2, ln_Book_new_ids _ _ _ _ _, _, rfl, z, _, rfl, .inl (SqL.of hz), ?_⟩⟩
      rw [List.length_map]
      refine ⟨L, S, ns.length, rfl, O, sm.nm100, x0, by omega, by omega, fun r hr => ?_⟩
      rw [idsV_eq]
      have s1 := Same.upd (H := H') (o := HO.lst ((idsL S.name S.nx ns.length).map V.str)) hr
      have hr1 := upd_same (H := H') (a := r) (o := HO.lst ((idsL S.name S.nx ns.length).map V.str))
      have hz1 := s1 _ _ hz
      generalize hH1 : upd H' r (HO.lst ((idsL S.name S.nx ns.length).map V.str)) = H1 at s1 hr1 hz1 ⊢
      refine ⟨_, rfl, line16 (by show 2 ≤ 16000000; decide), fun l hl => ?_⟩
      have s2 := Same.upd (H := H1) (o := HO.lst [V.str "split", V.str t]) hl
      have hl2 := upd_same (H := H1) (a := l) (o := HO.lst [V.str "split", V.str t])
      have hr2 := s2 _ _ hr1
      have hz2 := s2 _ _ hz1
      have nlr : r ≠ l := ne_of_none hr1 hl
      have nlz : z ≠ l := ne_of_none hz1 hl
      have s12 := Same.tr s1 s2
      have hlH : H' l = none := Same.none s1 hl
      generalize hH2 : upd H1 l (HO.lst [V.str "split", V.str t]) = H2 at s2 hl2 hr2 hz2 s12 ⊢
      have plen := psOf_len S.name S.nx ns
      refine ⟨_, rfl, _, rfl, r, z, _, _, rfl, .inl ⟨SqL.of hr2, SqL.of hz2, RZ.for_zipL (K := K) (a := r) (b := z) (xs := (idsL S.name S.nx ns.length).map V.str) (ys := ns.map V.int) (by rw [List.length_map, List.length_map, idsL_len])
        (fun i σ H3 => ∃ v4 v7, σ = [some (.ref L.of), some (.str t), some (.ref z), some (.ref (L.ea t)), v4, some (.ref r), some (.ref l), v7] ∧ Same H' H3 ∧ H3 r = some (.lst ((idsL S.name S.nx ns.length).map V.str)) ∧ H3 z = some (.lst (ns.map V.int)) ∧
          H3 l = some (.lst (.str "split" :: .str t :: flatP ((psOf S.name S.nx ns).take i)))) ⟨_, _, rfl, s12, hr2, hz2, hl2⟩ ?_ ?_ ?_⟩⟩
      · rintro i σ H3 ⟨v4, v7, rfl, sm3, h1, h2, h3⟩
        exact ⟨SqL.of h1, SqL.of h2⟩
      · rintro i x y A σ H3 hx hy ⟨v4, v7, rfl, sm3, h1, h2, h3⟩ hA
        obtain ⟨p, hp, rfl, rfl⟩ : ∃ p, (psOf S.name S.nx ns)[i]? = some p ∧ x = V.str p.1 ∧ y = V.int p.2 := by
          have a1 : ((psOf S.name S.nx ns).map (·.1))[i]?.map V.str = some x := by rw [psOf_ids, ← List.getElem?_map]; exact hx
          have a2 : ((psOf S.name S.nx ns).map (·.2))[i]?.map V.int = some y := by rw [psOf_qs, ← List.getElem?_map]; exact hy
          rw [List.getElem?_map] at a1 a2
          cases e : (psOf S.name S.nx ns)[i]? with
          | none =>
            rw [e] at a1
            cases a1
          | some p =>
            rw [e] at a1 a2
            exact ⟨p, rfl, (Option.some.inj a1).symm, (Option.some.inj a2).symm⟩
        have s3 := Same.upd (H := H3) (o := HO.tup [V.str p.1, V.int p.2]) hA
        have hA3 := upd_same (H := H3) (a := A) (o := HO.tup [V.str p.1, V.int p.2])
        have h13 := s3 _ _ h1
        have h23 := s3 _ _ h2
        have h33 := s3 _ _ h3
        have sm4 := Same.tr sm3 s3
        generalize hH4 : upd H3 A (HO.tup [V.str p.1, V.int p.2]) = H4 at s3 hA3 h13 h23 h33 sm4 ⊢
        have hil := (List.getElem?_eq_some_iff.mp hp).1
        have fl : (flatP ((psOf S.name S.nx ns).take i)).length ≤ 200 := by
          rw [flatP_len, List.length_take]
          omega
        refine ⟨A, _, rfl, SqT.of hA3, rfl, _, _, rfl, _, _, rfl, rfl, ?_⟩
        refine ⟨_, rfl, .inl ⟨rfl, _, SqL.of h33⟩, _, rfl, l, _, _, rfl, rfl, h33, lt_line (by simp only [List.length_cons]; omega), ?_⟩
        refine ⟨_, rfl, .inl ⟨rfl, _, SqL.of upd_same⟩, _, rfl, l, _, _, rfl, rfl, upd_same, lt_line (by simp only [List.length_append, List.length_cons, List.length_nil]; omega), ?_⟩
        rw [upd_upd]
        refine ⟨_, _, rfl, fun b o q => ?_, (upd_ne nlr).trans h13, (upd_ne nlz).trans h23, ?_⟩
        · rw [upd_ne (ne_of_none q hlH)]
          exact sm4 _ _ q
        · rw [upd_same]
          congr 2
          have e6 : flatP ((psOf S.name S.nx ns).take (i + 1)) = flatP ((psOf S.name S.nx ns).take i) ++ [V.str p.1, V.int p.2] := by
            rw [take_snoc hp]
            unfold flatP
            rw [List.flatMap_append]
            rfl
          rw [e6]
          simp
      · rintro σ H3 ⟨v4, v7, rfl, sm3, h1, h2, h3⟩
        have e7 : (psOf S.name S.nx ns).take ((idsL S.name S.nx ns.length).map V.str).length = psOf S.name S.nx ns := by
          rw [List.length_map, idsL_len, ← plen, List.take_length]
        rw [e7] at h3
        have O3 := O.same sm3
        obtain ⟨d3, hof3⟩ := O3.of
        refine ⟨_, rfl, L.of, d3, _, rfl, hof3, ln_Office_write _ _ _, _, rfl, l, _, rfl, .inl ⟨SqL.of h3, fun a ha => ?_⟩⟩
        have s4 := Same.upd (H := H3) (o := HO.tup (Line.spl t (psOf S.name S.nx ns)).enc) ha
        have chl := ch_le (gt_mem he)
        have smc := sm.chs
        refine ⟨L, S, a, .spl t (psOf S.name S.nx ns), rfl, O3.same s4, upd_same, ⟨⟨e, he, by omega⟩, fun p hp m => ?_, ?_, by omega, fun z => ?_⟩, sm.es9, sm.ln9, ?_, ?_, fun H' L' S' ap st => ?_⟩
        · have hm : p.1 ∈ idsL S.name S.nx ns.length := by
            rw [← psOf_ids]
            exact List.mem_map.mpr ⟨p, hp, rfl⟩
          obtain ⟨j, hj, ej⟩ := idsL_mem hm
          have := sm.fresh (S.nx + (j : Int)) (by omega) (by omega)
          rw [ej] at m
          exact none_key this m
        · rw [psOf_ids]
          exact idsL_nd sm.nm x0 (by omega) (by omega)
        · rw [z] at plen
          rw [List.length_nil] at plen
          omega
        · refine wds_cons (wd_str ⟨by decide +kernel, by decide +kernel⟩) (wds_cons (wd_str ok.tk) (flatP_wd fun p hp => ?_))
          have hm : p.1 ∈ idsL S.name S.nx ns.length := by
            rw [← psOf_ids]
            exact List.mem_map.mpr ⟨p, hp, rfl⟩
          have hq : p.2 ∈ ns := by
            rw [← psOf_qs S.name S.nx ns]
            exact List.mem_map.mpr ⟨p, hp, rfl⟩
          obtain ⟨j, hj, ej⟩ := idsL_mem hm
          have := hall _ hq
          refine ⟨?_, by omega, by omega⟩
          rw [ej]
          exact idf_tk sm.nm (by omega) (by omega)
        · show (flatP (psOf S.name S.nx ns)).length + 1 + 1 ≤ 1000
          rw [flatP_len]
          omega
        · obtain ⟨e2, he2, ap⟩ := ap
          have he2 : S.get t = some e2 := he2
          rw [he] at he2
          cases he2
          subst ap
          have st1 := ((Stp.same O sm3).trans (Stp.same O3 s4)).trans st
          refine ⟨_, rfl, k e he hh hc hall (by omega) c2 H' L' r st1 hr (fun f => (st.fr.new r f).elim (O.nofoot hr) fun w => ?_) ?_⟩
          · have w2 := (s4 _ _ h1).symm.trans w
            cases w2
          refine st.fr.keep r _ (s4 _ _ h1) fun f => ?_
          obtain ⟨o, q, _⟩ := O.foot f
          rw [hr] at q
          cases q
end LH
namespace LH
open PySem PySem.Spec PyProof.Rows L2
/-! ### a list comprehension whose element may raise -/
section
variable {X : Cx} {pins : List (Addr × Obj)} {σ : L2.St} {H : Hp} {s s' : Shared}
theorem frames_base {h B B' : Heap} (e : ∀ b, B.get? b = none → B'.get? b = none) : ∀ {l : List Env}, h.FunFrames B l → h.FunFrames B' l
  | [], _ => trivial
  | _ :: _, ⟨a, ⟨L, o, h1, h2, h3, h4⟩, r⟩ => ⟨a, ⟨L, o, h1, e _ h2, h3, h4⟩, frames_base e r⟩
theorem pins0 (I : Inv X pins σ H s) : Inv X [] σ H s := I.pins_of fun p hp => by cases hp
/-- the exception has left the block of names at C; it is now the def's own -/
theorem blk_leaves {ce : Env} {E : XK} {u : Value} {m : Str → Option Value} (hs : X.stack = X.env :: X.outer) (hf : X.env.frame = some X.env.locals) (tk : Takes X fun cls d _ H => E cls d H) (hce : ce.frame = X.env.frame)
    (IX : Inv X pins σ H s) (hn : s.heap.Ns ce.locals m) (hp : FpOk X pins H ce.locals) (c : L2.CX X.prog X.w X.stack H s E u s') :
    notedBy (model X.prog X.w) X.A ce (CompFails (model X.prog X.w) X.A X.xe ce) u s' := by
  obtain ⟨p0, p1, p2, p3, p4, p5⟩ := hp
  have nfr : ce.locals ∉ frs X.stack := fun z => (List.mem_cons.mp (IX.stkSub _ z)).elim p1 p2
  obtain ⟨oC, es, ep, gC, dC, rC⟩ := id hn
  -- what the call says of C
  have c2 : L2.CX X.prog X.w X.stack H s (fun cls d H' => E cls d H' ∧ H' ce.locals = none) u s' ∧ s'.heap.get? ce.locals = some oC := by
    obtain ⟨a, B, H', cls, d, e1, e2, e3, e4, e5, e6, e7, e8⟩ := c
    exact ⟨⟨a, B, H', cls, d, e1, e2, e3, e4, e5, e6, e7, e8, e4.free _ _ gC p0⟩, e2.1 _ _ (e4.keep _ _ gC p0 nfr)⟩
  obtain ⟨c2, gC'⟩ := c2
  obtain ⟨a, B, sI, pI, σI, HI, cls, d, rfl, I, nb, up, sky, na, hos, ag, w, hC⟩ := XE.of_call (W := fun cls d _ H' => E cls d H' ∧ H' ce.locals = none) IX (fun _ _ _ q => q) c2
  have I0 := pins0 I
  have hfr : X.A.frames = some (X.env :: X.outer) := by rw [I.ok.frames, hs]
  have hfl : ce.frame = some X.env.locals := hce.trans hf
  rw [hs] at sky
  have fin : ∀ h1, HandSPX.HeldZ B (X.env :: X.outer) a (Zc cls d) X.env.locals h1 → s'.heap.UpToSlots h1 → CompFails (model X.prog X.w) X.A X.xe ce (.ref a) { s' with heap := h1 } := by
    rintro h1 ⟨b1, b0, f1, t1⟩ u1
    have n1 : h1.Ns ce.locals m := u1.ns ⟨oC, es, ep, gC', dC, rC⟩
    refine ⟨m, n1, fun h2 m2 n2 sb => ?_⟩
    obtain ⟨o1, es1, ep1, g1, d1, _⟩ := n1
    obtain ⟨o2, es2, ep2, g2, d2, _⟩ := id n2
    obtain ⟨oe, vs, T, oT, ts, he, hz, hd, hv1, hnT, hTe, hT, hdT, h3⟩ := t1
    have aC : a ≠ ce.locals := fun z => by
      rw [z, g1] at he
      cases he
      rw [d1] at hd
      cases hd
    have tC : T ≠ ce.locals := fun z => by
      rw [z, g1] at hT
      cases hT
      rw [d1] at hdT
      cases hdT
    -- the ground again, with what stands at C now
    obtain ⟨B2, r1, r2⟩ := restrict h2 fun b => (B.get? b).isSome
    have none2 : ∀ b, B.get? b = none → B2.get? b = none := fun b e => r2 b (by rw [e]; rfl)
    have some2 : ∀ b o, B2.get? b = some o → h2.get? b = some o ∧ (B.get? b).isSome = true := fun b o e => by
      cases q : (B.get? b).isSome with
      | true => exact ⟨(r1 b q).symm.trans e, rfl⟩
      | false =>
        rw [r2 b q] at e
        cases e
    have fr2 : h2.FunFrames B2 (X.env :: X.outer) := frames_base none2 (Heap.FunFrames.sameBut sb n2 f1)
    have tr2 : HandSPX.TracedZ h2 B2 a (Zc cls d) (rawInt X.env.locals) := ⟨oe, vs, T, oT, ts, (sb.2 a aC).trans he, hz, hd, hv1, none2 T hnT, hTe, (sb.2 T tC).trans hT, hdT, h3⟩
    unfold PySem.passOn
    refine wpAny_bind (wpAny_field ((sb.2 a aC).trans he) hd hv1 ?_)
    rw [if_neg (by simp)]
    refine wpAny_bind (HandSPX.setFlight_anyZ (base := B2) (l := X.env :: X.outer) (Z := Zc cls d) (fl := rawInt X.env.locals) (fun b o e => (some2 b o e).1) fr2 tr2 fun h4 st4 fr4 tr4 u4 => wpAny_throw ?_)
    rw [hfl] at tr4
    have tr4 : HandSPX.TracedZ h4 B2 a (Zc cls d) (rawInt X.env.locals) := tr4
    -- the state without the exception
    obtain ⟨hI, kI, cI⟩ : ∃ hI : Heap, (∀ b, b ≠ ce.locals → hI.get? b = sI.heap.get? b) ∧ (∀ o, hI.get? ce.locals = some o → o = o2 ∧ ∃ o', sI.heap.get? ce.locals = some o') := by
      cases q : sI.heap.get? ce.locals with
      | none => exact ⟨sI.heap, fun _ _ => rfl, fun o e => by rw [q] at e; cases e⟩
      | some o' =>
        have nf : o2.isFreed = false := by
          cases h2r : o2 with
          | mk cc dd dt sl =>
            rw [h2r] at d2
            have d2 : dt = .dict es2 ep2 := d2
            subst d2
            rfl
        refine ⟨sI.heap.update ce.locals fun _ => o2, fun b hb => Heap.get?_update_other _ _ (Ne.symm hb), fun o e => ?_⟩
        rw [Heap.get?_update_self _ q nf] at e
        cases e
        exact ⟨rfl, o', rfl⟩
    have I1 := I0.turned (h' := hI) (t' := sI.toks) (it := ce.locals) (fun b o hb e => (kI b hb).trans e) hC p1 p3 p4 fun p hp => p5 p (by rw [List.append_nil] at hp; exact List.mem_append_left _ hp)
    refine tk _ _ ⟨a, B2, { sI with heap := hI }, [], σI, HI, cls, d, rfl, I1, fun b o e hb => ?_, fun b o e hnf => ?_, ?_, na, hos, ag, w⟩
    · by_cases z : b = ce.locals
      · subst z
        obtain ⟨rfl, o', e'⟩ := cI o e
        rw [r1 _ (by rw [nb _ _ e' hb]; rfl)]
        exact g2
      · have eB := nb b o ((kI b z).symm.trans e) hb
        rw [r1 b (by rw [eB]; rfl), sb.2 b z]
        exact b1 b o eB
    · by_cases z : b = ce.locals
      · subst z
        obtain ⟨rfl, _⟩ := cI o e
        exact u4 _ _ g2 hnf
      · obtain ⟨sl, q1⟩ := up b o ((kI b z).symm.trans e) hnf
        obtain ⟨sl2, q2⟩ := u1 b _ q1 hnf
        obtain ⟨sl3, q3⟩ := u4 b _ ((sb.2 b z).trans q2) hnf
        exact ⟨sl3, q3⟩
    · rw [hs]
      exact .inr (.inr ⟨st4, none2 a b0, fr4, tr4⟩)
  show wpAny _ _ (noteFrame (.ref a) ce) _ _ s'
  rw [noteFrame_env _ hce]
  rcases sky with ⟨q1, q2, q3, oe, vs, q4, q5, q6, q7⟩ | fl | hh
  · exact HandSPX.look_newZ Zc.steady hfr q3 hf q4 q1 q2 q6 q7 q5 fin
  · exact HandSPX.looks_onZ Zc.steady hfr hf fl fin
  · exact HandSPX.againZ hf hh.2.2.2 (fin s'.heap hh (Heap.UpToSlots.refl _))
/-- what the element's context is: the block of names, an exception handed to ex -/
abbrev blkW (X : Cx) (s : Shared) (H : Hp) (scope : Scope) (C : Addr) (cl : List (Str × Addr)) (fp : List Addr) (ex : Value → Shared → Prop) : Cx := (X.blk s H scope (compEnvC scope cl C X.env) fp).wish ex
/-- what the element may lean on: a call's exception is taken -/
def Lets (X Y : Cx) (E : XK) : Prop := ∀ (pins : List (Addr × Obj)) (σ : L2.St) (H : Hp) (s : Shared) (u : Value) (s' : Shared), Inv Y pins σ H s → L2.CX X.prog X.w X.stack H s E u s' → Y.xe u s'
theorem lcX_core {E : XK} {Q : VK} {elt tg iter : Expr} {scope : Scope} {own : List (Str × Nat)} {pos pos' : Pos} {wi : TI} {g : TG} {te : TE} {use : Option (Value → Sem Unit)} {Qf : Value → Shared → Prop}
    (calm : X.calm = true) (nd : X.N.Nodup) (hs : X.stack = X.env :: X.outer) (hf : X.env.frame = some X.env.locals) (tk : Takes X fun cls d _ H => E cls d H)
    (I : Inv X pins σ H s) (hi : PI X tg iter wi) (ok : BlkOk X.N X.env.scope scope own)
    (hg : ∀ s H C cl fp ex, PG (blkW X s H scope C cl fp ex) tg g) (he : ∀ s H C cl fp ex, Lets X (blkW X s H scope C cl fp ex) E → PE (blkW X s H scope C cl fp ex) elt te)
    (hsx : ∀ x, foldedSetIterable iter X.env x = pure x) (h : tLc wi g tYes te (own.map (·.2)) σ H Q)
    (ends : ∀ D C s' m H', Inv X pins σ H' s' → Q (.ref D) H' → s'.heap.Ns C m → FpOk X pins H' C → ∀ ce : Env, ce.locals = C → compEnds (model X.prog X.w) X.A X.xe use Qf (.ref D) ce (.ok .next) s') :
    wpAny (model X.prog X.w) X.A (comprehension (.ListComp elt [⟨tg, iter, [], 0⟩] scope pos) scope X.env pos' (newList []) false (eval iter X.env) use) Qf X.xe s := by
  have cap : ∀ y ∈ scope.names, y.2 = .free → ∃ c, X.env.cells.lookup y.1 = some c := fun y my ey => (ok.free y my ey).elim (fun z => I.ok.has _ (.inl z)) fun z => I.ok.has _ (.inr z)
  refine comprehension_at (use := use) rfl hsx (closure_ok cap) ok.kind (fun y my ey => (ok.uniq y my).trans (congrArg some ey)) ?_
  refine thn (hi.run pins s σ H _ I h) fun _ sa ha => thn ha fun _ sb hb => ?_
  obtain ⟨it, fp, tn, J, Hb, rfl, Ib, T, stb, fb, q⟩ := hb
  refine wpAny_newObj_type (newEnv_comp ?_) (Nat.zero_le _)
  generalize eD : sb.heap.objs.size = D
  have freeD : Hb D = none := Ib.hok.fresh (Nat.le_of_eq eD)
  obtain ⟨W, ⟨m0, w0⟩, turn⟩ := q D freeD
  generalize ec : ({ sb with heap := sb.heap.push { cls := .type "list", data := .seq ([] : List Value).toArray } } : Shared) = sc
  have ech : sc.heap = sb.heap.push { cls := .type "list", data := .seq ([] : List Value).toArray } := by
    rw [← ec]
  have Ic : Inv X pins σ (upd Hb D (.lst [])) sc := by
    rw [← ec]
    refine Ib.laid (t' := sb.toks) (fun b o z => Heap.get?_push_of_some _ z) (Nat.le_of_eq eD) ⟨Nat.zero_le _, [], 0, .nil, ?_⟩
    subst eD
    exact Heap.get?_push_size _ rfl
  have below : ∀ b ∈ fp, b < sb.heap.objs.size := fun b mb => let ⟨_, z, _⟩ := T.obj _ _ stb b mb; Heap.lt_size z
  have fc : ∀ b ∈ fp, FpOk X pins (upd Hb D (.lst [])) b ∧ b < sc.heap.objs.size := fun b mb => by
    have lb := below b mb
    obtain ⟨z1, z2⟩ := fb b mb
    refine ⟨⟨(upd_ne (fun e => ?_)).trans z1, z2⟩, ?_⟩
    · rw [← eD] at e
      exact Nat.ne_of_lt lb e
    · rw [ech, Heap.size_push]
      exact Nat.lt_succ_of_lt lb
  have stc : tn 0 sc.heap := T.keep _ _ _ stb fun b _ o z => by
    rw [ech]
    exact Heap.get?_push_of_some _ z
  generalize eC : sc.heap.objs.size = C
  generalize ecl : cellsFrom (C + 1) scope.names (cloFrom X.env.cells scope.names []) = cl
  generalize ex : notedBy (model X.prog X.w) X.A (compEnvC scope cl C X.env) (CompFails (model X.prog X.w) X.A X.xe (compEnvC scope cl C X.env)) = xx
  generalize eH : upd Hb D (.lst []) = Hc at Ic fc w0
  have Id := (block_start Ic ok nd fc).wish xx
  rw [eC, ecl] at Id
  have Id : Inv (blkW X sc Hc scope C cl fp xx) [] (wipe σ (own.map (·.2))) Hc { sc with heap := pushCells (sc.heap.push { cls := .type "dict", data := .dict #[] }) scope.names } := Id
  -- what the element throws
  have out : ∀ {pb : List (Addr × Obj)} {σb : L2.St} {Hq : Hp} {sq : Shared}, Inv (blkW X sc Hc scope C cl fp xx) pb σb Hq sq → Inv X pins σ Hq sq := fun Iq =>
    Ic.call' (ch := fp) Iq.os Iq.base Iq.hok Iq.bare fun b mb => let z := (fc b mb).1; ⟨z.2.2.2.1, z.2.1, z.2.2.2.2.1, z.2.2.2.2.2⟩
  have atC : ∀ {pb : List (Addr × Obj)} {σb : L2.St} {Hq : Hp} {sq : Shared}, Inv (blkW X sc Hc scope C cl fp xx) pb σb Hq sq → ∃ m, sq.heap.Ns C m ∧ FpOk X pins Hq C := fun {pb σb Hq sq} Iq => by
    obtain ⟨m, z, _⟩ := Iq.loc
    have fr : Hq C = none := Iq.free
    exact ⟨m, z, Ic.fpOk (Nat.le_of_eq eC) fr⟩
  have lets : Lets X (blkW X sc Hc scope C cl fp xx) E := fun pb σb Hq sq u s' Iq c => by
    obtain ⟨m, z, fok⟩ := atC Iq
    show xx u s'
    rw [← ex]
    exact blk_leaves (ce := compEnvC scope cl C X.env) hs hf tk rfl (out Iq) z fok c
  have pg := hg sc Hc C cl fp xx
  have pe := he sc Hc C cl fp xx lets
  show codeAny _ _ (.compStart (.ListComp elt [⟨tg, iter, [], 0⟩] scope pos) 0 (.ref it) (.ref D) (compEnvC scope cl C X.env)) (compEnds (model X.prog X.w) X.A X.xe use Qf (.ref D) (compEnvC scope cl C X.env)) _
  generalize ed : ({ sc with heap := pushCells (sc.heap.push { cls := .type "dict", data := .dict #[] }) scope.names } : Shared) = sd at Id ⊢
  have std : tn 0 sd.heap := T.keep _ _ _ stc fun b _ o z => by
    rw [← ed]
    exact pushCells_keeps _ _ _ _ (Heap.get?_push_of_some _ z)
  have foot : ∀ {σq : L2.St} {Hq : Hp} {sq : Shared}, Inv (blkW X sc Hc scope C cl fp xx) [] σq Hq sq → (∀ b ∈ fp, Hq b = none) → ∀ b ∈ fp, FpOk (blkW X sc Hc scope C cl fp xx) [] Hq b := fun {σq Hq sq} Iq hq b mb =>
    ⟨hq b mb, (Iq.ok.exf b mb).1, Iq.ok.exfs b mb, .inl mb, fun x c z => (Iq.ok.exf b mb).2 x c z, fun p hp => by cases hp⟩
  have run : codeAny (model X.prog X.w) X.A (.compLoop (.ListComp elt [⟨tg, iter, [], 0⟩] scope pos) 0 (.ref it) (.ref D) (compEnvC scope cl C X.env)) (compEnds (model X.prog X.w) X.A X.xe use Qf (.ref D) (compEnvC scope cl C X.env)) sd := by
    refine compLoop_any (fun n sq => ∃ i Hq, Inv (blkW X sc Hc scope C cl fp xx) [] (wipe σ (own.map (·.2))) Hq sq ∧ tn i sq.heap ∧ (∀ b ∈ fp, Hq b = none) ∧ W i n Hq) ?_ m0 ⟨0, Hc, Id, std, fun b mb => (fc b mb).1.1, w0⟩
    rintro n s5 ⟨i, H5, I5, st5, n5, w5⟩
    have thrown : (notedBy (model X.prog X.w) X.A (compEnvC scope cl C X.env) fun u sq => compEnds (model X.prog X.w) X.A X.xe use Qf (.ref D) (compEnvC scope cl C X.env) (.error u) sq) = xx := by
      rw [← ex]
      cases use <;> rfl
    rw [thrown]
    rcases turn i n H5 w5 with ⟨stop, done⟩ | ⟨go, Nx, next, step⟩
    · refine thnF (T.done (blkW X sc Hc scope C cl fp xx) rfl rfl rfl calm i [] s5 _ H5 (fun _ _ => False) I5 (foot I5 n5) st5 stop) fun r s6 ⟨er, I6⟩ => ?_
      subst er
      obtain ⟨m, z, fok⟩ := atC I6
      exact ends D C s6 m H5 (out I6) done z fok _ rfl
    · refine thnF (T.item (blkW X sc Hc scope C cl fp xx) rfl rfl rfl calm i [] s5 _ H5 (fun _ _ => False) I5 (foot I5 n5) st5 go) fun r s6 ⟨u, er, h6⟩ => ?_
      subst er
      refine thnF h6 fun _ s7 ⟨x, H7, I7, r7, y7, st7, n7⟩ => ?_
      have J7 := I7.pinned (foot I7 n7) (T.obj _ _ st7)
      refine thn (pg.run _ s7 _ H7 x u _ J7 r7 (step x H7 y7)) fun _ s8 ⟨σ8, H8, I8, e8, q8⟩ => wpAny_tests_nil ?_
      refine thn (pe.run _ s8 σ8 H8 _ I8 q8) fun v s9 ⟨y, H9, I9, r9, acc, hD9, z9, nx⟩ => ?_
      refine app_ok (X := blkW X sc Hc scope C cl fp xx) I9 hD9 z9 r9 fun s10 I10 => ?_
      obtain ⟨m', lt, w'⟩ := next _ nx
      have still : ∀ b ∈ fp, ∀ o, s7.heap.get? b = some o → s10.heap.get? b = some o ∧ (upd H9 D (.lst (acc ++ [y]))) b = none := fun b mb o z =>
        let k := I10.pin (b, o) (List.mem_append_right _ (List.mem_append_right _ (mem_pinsAt mb z)))
        ⟨k.1, k.2.1⟩
      refine ⟨m', lt, i + 1, _, (pins0 I10).weak (by rw [← e8, wipe_length]) (fun j w z => ?_), T.keep _ _ _ st7 (fun b mb o z => (still b mb o z).1), fun b mb => ?_, w'⟩
      · rw [← e8] at z
        exact (wipe_some z).1
      · obtain ⟨o, z, _⟩ := T.obj _ _ st7 b mb
        exact (still b mb o z).2
  exact codeAny_compStart_list run (T.self X.A 0 _ _ _ std run)
theorem ps_setLcX {E : XK} {i : Nat} {y : Str} {py spos pos : Pos} {elt tg iter : Expr} {scope : Scope} {own : List (Str × Nat)} {wi : TI} {g : TG} {te : TE}
    (calm : X.calm = true) (nd : X.N.Nodup) (hs : X.stack = X.env :: X.outer) (hf : X.env.frame = some X.env.locals) (tk : Takes X fun cls d _ H => E cls d H)
    (iy : X.N[i]? = some y) (ly : X.env.scope.names.lookup y = some .local) (sw : swapsWith (.ListComp elt [⟨tg, iter, [], 0⟩] scope pos) (some (.Name y py)) spos.line X.env = pure true)
    (hi : PI X tg iter wi) (ok : BlkOk X.N X.env.scope scope own)
    (hg : ∀ s H C cl fp ex, PG (blkW X s H scope C cl fp ex) tg g) (he : ∀ s H C cl fp ex, Lets X (blkW X s H scope C cl fp ex) E → PE (blkW X s H scope C cl fp ex) elt te)
    (hsx : ∀ x, foldedSetIterable iter X.env x = pure x := by intro _; rfl) :
    PS X (.Assign [.Name y py] (.ListComp elt [⟨tg, iter, [], 0⟩] scope pos) spos) (tAsg (tLc wi g tYes te (own.map (·.2))) (gName i)) := by
  refine ⟨fun pins s σ H D I h => ?_⟩
  have h : tLc wi g tYes te (own.map (·.2)) σ H fun x H1 => gName i x σ H1 D.nx := h
  rw [exec_Assign_Name_used _ _ _ _ sw]
  refine wpAny_bind (wpAny_standAt (wpAny_bind (wpAny_bind (thn (lcX_core (Qf := fun _ s' => SP X pins D .next s') (use := some (assign (.Name y py) X.env)) calm nd hs hf tk I hi ok hg he hsx h fun L C s' m H' I' q hn fo ce ec => ?_) fun _ s' q => wpAny_pure (wpAny_pure q)))))
  obtain ⟨z0, z1, z2, z3, z4, z5⟩ := fo
  refine wpAny_assign_Name (store_ok2 (v := V.ref L) I' nd iy (.inl ly) rfl (fun s2 I2 ⟨a, sb, ha⟩ => ⟨m, ?_, fun h3 sb3 => ?_⟩) (.inr ly))
  · rw [ec]
    exact hn.sameBut sb (ha.elim (fun e => by rw [e]; exact z1) fun e c => z4 y a e c.symm)
  · rw [ec] at sb3
    exact ⟨_, H', I2.turned (t' := s2.toks) (fun b o nb e => (sb3.2 b nb).trans e) z0 z1 z3 z4 z5, q⟩
end
end LH
namespace LH
open PySem PySem.Spec PyProof.Rows L2
/-! ### joining -/
theorem cut_take {ls : List V} {i : Nat} (hi : i ≤ ls.length) : cutV ls none (some (i : Int)) = ls.take i := by
  unfold cutV
  rw [HT.sIx_none, HT.sIx_nat, List.drop_zero, Nat.min_eq_left hi]
  rfl
theorem in_str (x : Str) : ∀ xs : List Str, inV (.str x) (xs.map V.str) = decide (x ∈ xs)
  | [] => by simp [inV]
  | y :: r => by
    have ih := in_str x r
    have e : inV (.str x) ((y :: r).map V.str) = ((y == x) || inV (.str x) (r.map V.str)) := rfl
    rw [e, ih]
    by_cases c : y = x
    · simp [c]
    · have c' : ¬ x = y := fun z => c z.symm
      simp [c, c']
theorem flat_str (xs : List Str) : (xs.map V.str).all L2.flatV = true := by
  rw [List.all_eq_true]
  intro v hv
  obtain ⟨x, _, rfl⟩ := List.mem_map.mp hv
  rfl
theorem dopt2 (x y : Option Str) : decide (optV x = optV y) = decide (x = y) := by
  cases x with
  | none =>
    cases y with
    | none => rfl
    | some y => exact (decide_eq_false (by intro z; cases z)).trans (decide_eq_false (by intro z; cases z)).symm
  | some x => exact dopt x y
theorem scal_opt (x y : Option Str) : scal (optV x) (optV y) = true := by cases x <;> cases y <;> rfl
def homeOf (S : OSt) (t : Str) : Option Str := (S.get t).bind (·.home)
def spOffJoin (K : PySem.W.Frag) : Sp := fun vs H Q E => ∃ (L : Lay) (S : OSt) (z : Addr) (ts : List Str), vs = [.ref L.of, .ref z] ∧ OffAt K H L S ∧ Small S ∧ H z = some (.lst (ts.map V.str)) ∧ ts.length ≤ 100 ∧ Errs K H E ∧
  (∀ t0 r e0, ts = t0 :: r → S.get t0 = some e0 → ts.Nodup → 2 ≤ ts.length → (∀ t ∈ ts, ∃ e, S.get t = some e ∧ e.st = .held ∧ e.cb = false ∧ e.home = e0.home) → (ts.map S.qof).sum ≤ 1000000000 →
    ∀ H' L', Stp K H L S H' L' (S.lnup.join_ (idf S.name S.nx) e0.home ts) → Q (.str (idf S.name S.nx)) H')
theorem sc_Office_join : FnScope ["self", "things", "entries", "new", "place", "found", "thing"] ["self", "things"] (defScope sOffice_join) := ⟨rfl, rfl, rfl, by decide +kernel, rfl, by decide +kernel, by decide +kernel⟩
abbrev Ok_Office_join (P : Program) (w : World) (K : PySem.W.Frag) (mg : Str → Option Value) (base : Heap) : Prop := Has P w K mg base (L2.CX P w) 7 (fOffice_join K) ["self", "things"] (spOffJoin K)
theorem ok_Office_join {P : Program} {w : World} {K : PySem.W.Frag} {mg : Str → Option Value} {base : Heap} (T : Txt K mg) (h_Office_free : Ok_Office_free P w K mg base) (h_Book_new_ids : Ok_Book_new_ids P w K mg base) (h_Office_write : Ok_Office_write P w K mg base) : Ok_Office_join P w K mg base := by
  obtain ⟨fd, F⟩ := T.dOffice_join
  obtain ⟨fd_Office_free, G_Office_free, b_Office_free⟩ := h_Office_free
  obtain ⟨fd_Book_new_ids, G_Book_new_ids, b_Book_new_ids⟩ := h_Book_new_ids
  obtain ⟨fd_Office_write, G_Office_write, b_Office_write⟩ := h_Office_write
  obtain ⟨tMOST, hMOST⟩ := T.i_MOST
  refine ⟨fd, FunD.ok (CX := (L2.CX P w)) F sc_Office_join (fun vs H Q E h => ?_) (fun cdv A outer s H vs Q E hr h => ?_), FunD.bindsN F fun _ _ _ _ _ _ us hl => match us, hl with | [_, _], _ => rfl⟩
  · obtain ⟨L, S, z, ts, rfl, _⟩ := h
    rfl
  · have hu := hu_of hr
    refine ⟨_, (pss_cons (ps_setLcX (i := 2) (own := [("thing", 6)]) (g := gName 6) (by rfl) sc_Office_join.nd rfl rfl (takes_of rfl rfl rfl rfl) rfl rfl (sw_true rfl rfl rfl (by decide +kernel)) (pi_list (pv 1)) (blkOk_by (own := [("thing", 6)]) (N := ["self", "things", "entries", "new", "place", "found", "thing"]) (sc := defScope sOffice_join) (by decide +kernel)) (fun _ _ _ _ _ _ => (pg_name (i := 6) sc_Office_join.nd rfl (Or.inl rfl))) (fun _ _ _ _ _ _ px => (by exact (pe_meth (pv 0) T.cl_Office T.m_Office_free G_Office_free (hr.mono (by decide)) b_Office_free .nil (fun p q r t u v I c => px p q r t u v I c) (pa_cons (pv 6) pa_nil)))))
      (pss_cons (ps_for (passes_of rfl) rfl (pi_enum (by rfl) T.b_enumerate (pa_cons (pv 2) pa_nil)) (pg_tup rfl (pgs_cons (pg_name (i := 4) sc_Office_join.nd rfl (Or.inl rfl)) (pgs_cons (pg_name (i := 5) sc_Office_join.nd rfl (Or.inl rfl)) pgs_nil))) (pss_one (ps_if (PW.pt (pw_or (pt_cmpR op_in_seq (pe_fld (pv 5) rfl) (pe_slice sl_list (pv 1) po_none (po_some (pv 4))) (by rfl)) (pw_or1 (pt_cmpR op_ne (pe_fld (pv 5) rfl) (pe_fld (pe_ix ix_list (pv 2) pe_int (fun _ _ => rfl)) rfl) (nomark _))))) (pss_one (ps_raise rfl (takes_of rfl rfl rfl rfl) (SkE.pmk_own1 PySem.F.excBase_ValueError T.x_InvalidThings.1 T.g_InvalidThings T.x_InvalidThings.2.1 (raises_own T.x_InvalidThings.2.2.1 T.x_InvalidThings.2.2.2) (by exact rfl) pe_str))) pss_nil)))
      (pss_cons (ps_if (pt_cmpR op_lt (pe_callB call_len_seq (by rfl) T.b_len PySem.boot_len (pa_cons (pv 1) pa_nil)) pe_int (nomark _)) (pss_one (ps_raise rfl (takes_of rfl rfl rfl rfl) (SkE.pmk_own1 PySem.F.excBase_ValueError T.x_InvalidThings.1 T.g_InvalidThings T.x_InvalidThings.2.1 (raises_own T.x_InvalidThings.2.2.1 T.x_InvalidThings.2.2.2) (by exact rfl) pe_str))) pss_nil)
      (pss_cons (ps_if (pt_cmpR op_gt (pe_callB (cr_sum rfl) (by rfl) T.b_sum (by decide +kernel) (pa_cons (pe_lc (own := [("found", 5)]) (g := gName 5) (tt := tYes) (by rfl) sc_Office_join.nd (pi_list (pv 2)) (blkOk_by (own := [("found", 5)]) (N := ["self", "things", "entries", "new", "place", "found", "thing"]) (sc := defScope sOffice_join) (by decide +kernel)) (fun _ _ _ _ _ => (pg_name (i := 5) sc_Office_join.nd rfl (Or.inl rfl))) (fun _ _ _ _ _ => pts_nil) (fun _ _ _ _ _ => (by exact (pe_fldB (K := K) rfl (pv 5) rfl)))) pa_nil)) (pe_glob (v := .int 1000000000) rfl hMOST ⟨_, rfl⟩) (nomark _)) (pss_one (ps_raise rfl (takes_of rfl rfl rfl rfl) (SkE.pmk_own1 PySem.F.excBase_ValueError T.x_InvalidQuantity.1 T.g_InvalidQuantity T.x_InvalidQuantity.2.1 (raises_own T.x_InvalidQuantity.2.2.1 T.x_InvalidQuantity.2.2.2) (by exact rfl) pe_str))) pss_nil)
      (pss_cons (ps_set (i := 3) sc_Office_join.nd rfl (Or.inl rfl) (pe_ix ix_list (pe_meth (pe_fld (pv 0) rfl) T.cl_Book T.m_Book_new_ids G_Book_new_ids (hr.mono (by decide)) b_Book_new_ids .nil pass0 (pa_cons pe_int pa_nil)) pe_int (fun _ _ => rfl)))
      (pss_cons (ps_expr (pe_meth (pv 0) T.cl_Office T.m_Office_write G_Office_write (hr.mono (by decide)) b_Office_write .nil pass0 (pa_cons (pe_callTy call_tuple_of (by rfl) T.b_tuple (by decide +kernel) (pa_cons (pe_op op_cat (pe_lst (pa_cons pe_str (pa_cons (pv 3) pa_nil))) (pe_callTy call_list_of (by rfl) T.b_list (by decide +kernel) (pa_cons (pv 1) pa_nil))) pa_nil)) pa_nil)))
      (pss_one (ps_ret (pv 3))))))))), ?_⟩
    obtain ⟨L, S, z, ts, rfl, O, sm, hz, hn, kE, k⟩ := h
    obtain ⟨do_, hof⟩ := O.of
    obtain ⟨b2, hb2⟩ := O.bk
    refine ⟨_, rfl, z, rfl, ⟨_, SqL.of hz⟩, fun D hD => lc_list (K := K) (a := z) (xs := ts.map V.str)
      (fun i H' => H' = upd H D (.lst ((ts.take i).map fun t => V.ref (L.ea t))) ∧ ∀ t ∈ ts.take i, ∃ e, S.get t = some e ∧ e.st = .held ∧ e.cb = false) ⟨rfl, fun t m => by cases m⟩ (fun i H' _ hh => ?_) (fun i x H' hx hh => ?_) (fun H' hh => ?_)⟩
    · rw [hh.1]
      exact SqL.of ((upd_ne (ne_of_none hz hD)).trans hz)
    · obtain ⟨rfl, hall⟩ := hh
      rw [List.getElem?_map] at hx
      obtain ⟨t, ht, rfl⟩ := Option.map_eq_some_iff.mp hx
      have s1 := Same.upd (H := H) (o := HO.lst ((ts.take i).map fun t => V.ref (L.ea t))) hD
      have O1 := O.same s1
      obtain ⟨d1, hof1⟩ := O1.of
      have tk := take_snoc ht
      have hil := (List.getElem?_eq_some_iff.mp ht).1
      refine ⟨rfl, _, rfl, L.of, d1, _, rfl, hof1, ln_Office_free _ _ _, _, rfl, L, S, t, rfl, O1, fun e he hh hc => ?_, kE.same s1⟩
      refine ⟨_, upd_same, ?_, ?_, ?_⟩
      · rw [List.length_map, List.length_take]
        exact lt_line (by omega)
      · rw [upd_upd, tk, List.map_append]
        rfl
      · intro u mu
        rw [tk] at mu
        rcases List.mem_append.mp mu with q | q
        · exact hall u q
        · rw [List.mem_singleton.mp q]
          exact ⟨e, he, hh, hc⟩
    · obtain ⟨rfl, hall⟩ := hh
      rw [List.length_map, List.take_length] at hall ⊢
      have s1 := Same.upd (H := H) (o := HO.lst (ts.map fun t => V.ref (L.ea t))) hD
      have hD1 := upd_same (H := H) (a := D) (o := HO.lst (ts.map fun t => V.ref (L.ea t)))
      have hz1 := s1 _ _ hz
      generalize hH1 : upd H D (.lst (ts.map fun t => V.ref (L.ea t))) = H1 at s1 hD1 hz1 ⊢
      refine ⟨_, rfl, D, _, rfl, SqL.of hD1, for_it (walk_enum (K := K) (a := D) (xs := ts.map fun t => V.ref (L.ea t)))
        (fun i σ H' => ∃ v4 v5, σ = [some (.ref L.of), some (.ref z), some (.ref D), none, v4, v5, none] ∧ Same H1 H' ∧ ∀ j t, j < i → ts[j]? = some t → t ∉ ts.take j ∧ ∀ t0, ts[0]? = some t0 → homeOf S t = homeOf S t0)
        ⟨_, _, rfl, Same.rfl', fun j t hj => by omega⟩ ?_ ?_ ?_⟩
      · rintro i σ H' _ ⟨v4, v5, rfl, sm2, _⟩
        exact SqL.of (sm2 _ _ hD1)
      · rintro i x σ H' H2 hi ⟨v4, v5, rfl, sm2, hyp⟩ hy
        obtain ⟨A, x1, x2, rfl, hA, rfl, e1, e2⟩ := hy
        have e1 : some (V.int (i : Nat)) = some x1 := e1
        have e2 : (ts.map fun t => V.ref (L.ea t))[i]? = some x2 := e2
        cases e1
        rw [List.getElem?_map] at e2
        obtain ⟨t, ht, rfl⟩ := Option.map_eq_some_iff.mp e2
        have s3 := Same.upd (H := H') (o := HO.tup [V.int (i : Nat), V.ref (L.ea t)]) hA
        have hA3 := upd_same (H := H') (a := A) (o := HO.tup [V.int (i : Nat), V.ref (L.ea t)])
        have sm3 := Same.tr sm2 s3
        generalize hH3 : upd H' A (HO.tup [V.int (i : Nat), V.ref (L.ea t)]) = H3 at s3 hA3 sm3 ⊢
        have O3 := (O.same s1).same sm3
        obtain ⟨e, he, hh, hc⟩ := hall t (List.mem_of_getElem? ht)
        obtain ⟨de, hde⟩ := O3.ent t e (gt_mem he)
        have hz3 := sm3 _ _ hz1
        have hil := (List.getElem?_eq_some_iff.mp ht).1
        refine ⟨A, _, rfl, SqT.of hA3, rfl, _, _, rfl, _, _, rfl, rfl, ?_⟩
        refine ⟨_, rfl, rd_Entry_thing T hde ⟨_, rfl, _, rfl, _, rfl, z, _, rfl, SqL.of hz3, fun p hp => ?_⟩⟩
        have s4 := Same.upd (H := H3) (o := HO.lst (cutV (ts.map V.str) none (some ((i : Nat) : Int)))) hp
        have hp4 := upd_same (H := H3) (a := p) (o := HO.lst (cutV (ts.map V.str) none (some ((i : Nat) : Int))))
        rw [cut_take (by rw [List.length_map]; omega), ← List.map_take] at hp4 s4 ⊢
        have sm4 := Same.tr sm3 s4
        generalize hH4 : upd H3 p (HO.lst ((ts.take i).map V.str)) = H4 at s4 hp4 sm4 ⊢
        refine ⟨p, _, rfl, .inl (SqL.of hp4), rfl, flat_str _, _, rfl, ?_⟩
        rw [in_str]
        have errT : ∀ {H5 : Hp}, Same H4 H5 → E (.ref (xInvalidThings K)) none H5 := fun s5 => kE _ _ (.inr (.inr (.inr (.inr (.inr (.inl rfl)))))) (Same.tr (Same.tr s1 sm4) s5)
        by_cases c1 : t ∈ ts.take i
        · exact ifT (decide_eq_true c1) (iteT (errT Same.rfl'))
        refine ifF (decide_eq_false c1) ?_
        obtain ⟨t0, ht0⟩ : ∃ t0, ts[0]? = some t0 := ⟨ts[0], List.getElem?_eq_getElem (by omega)⟩
        obtain ⟨e0, he0, _⟩ := hall t0 (List.mem_of_getElem? ht0)
        have O4 := (O.same s1).same sm4
        obtain ⟨d4, hd4⟩ := O4.ent t e (gt_mem he)
        obtain ⟨d0, hd0⟩ := O4.ent t0 e0 (gt_mem he0)
        have hm0 : (ts.map fun t => V.ref (L.ea t))[0]? = some (.ref (L.ea t0)) := by
          rw [List.getElem?_map, ht0]
          rfl
        refine ⟨_, rfl, rd_Entry_home T hd4 ⟨_, rfl, ixL T (sm4 _ _ hD1) (.ref (L.ea t0)) (hv := atI_nat (j := 0) hm0) (rd_Entry_home T hd0 ⟨scal_opt _ _, _, rfl, ?_⟩)⟩⟩
        rw [dopt2]
        by_cases c2 : e.home = e0.home
        rotate_left
        · exact ifT (by rw [decide_eq_false c2]; rfl) (errT Same.rfl')
        refine ifF (by rw [decide_eq_true c2]; rfl) ⟨_, _, rfl, sm4, fun j u hj hu => ?_⟩
        by_cases cj : j = i
        · subst cj
          rw [ht] at hu
          cases hu
          refine ⟨c1, fun u0 h0 => ?_⟩
          rw [ht0] at h0
          cases h0
          unfold homeOf
          rw [he, he0]
          exact c2
        · exact hyp j u (by omega) hu
      · rintro σ H' ⟨v4, v5, rfl, sm2, hyp⟩
        rw [List.length_map] at hyp
        have hz2 := sm2 _ _ hz1
        have hD2 := sm2 _ _ hD1
        have s12 := Same.tr s1 sm2
        have O2 := O.same s12
        refine ⟨_, rfl, z, _, rfl, .inl (SqL.of hz2), _, _, rfl, rfl, _, rfl, ?_⟩
        rw [List.length_map]
        by_cases c1 : ts.length < 2
        · exact ifT (decide_eq_true (by omega)) (kE _ _ (.inr (.inr (.inr (.inr (.inr (.inl rfl)))))) s12)
        refine ifF (decide_eq_false (by omega)) ?_
        refine ⟨_, rfl, D, rfl, ⟨_, SqL.of hD2⟩, fun D2 hD3 => lc_list (K := K) (a := D) (xs := ts.map fun t => V.ref (L.ea t)) (fun i H2 => H2 = upd H' D2 (.lst ((ts.take i).map fun t => V.int (S.qof t)))) rfl (fun i H2 _ hh => ?_) (fun i x H2 hx hh => ?_) (fun H2 hh => ?_)⟩
        · rw [hh]
          exact SqL.of ((upd_ne (ne_of_none hD2 hD3)).trans hD2)
        · subst hh
          rw [List.getElem?_map] at hx
          obtain ⟨t, ht, rfl⟩ := Option.map_eq_some_iff.mp hx
          have s3 := Same.upd (H := H') (o := HO.lst ((ts.take i).map fun t => V.int (S.qof t))) hD3
          obtain ⟨e, he, hh, hc⟩ := hall t (List.mem_of_getElem? ht)
          obtain ⟨de, hde⟩ := (O2.same s3).ent t e (gt_mem he)
          have eq1 : S.qof t = e.qty := by
            unfold OSt.qof
            rw [he]
          refine ⟨rfl, _, rfl, rd_Entry_quantity T hde ⟨_, upd_same, ?_, ?_⟩⟩
          · rw [List.length_map, List.length_take]
            exact lt_line (by omega)
          · rw [upd_upd, take_snoc ht, List.map_append, ← eq1]
            rfl
        · subst hh
          rw [List.length_map, List.take_length]
          have s3 := Same.upd (H := H') (o := HO.lst (ts.map fun t => V.int (S.qof t))) hD3
          have hD4 := upd_same (H := H') (a := D2) (o := HO.lst (ts.map fun t => V.int (S.qof t)))
          have s13 := Same.tr s12 s3
          have hz3 := s3 _ _ hz2
          generalize hH2 : upd H' D2 (HO.lst (ts.map fun t => V.int (S.qof t))) = H2 at s3 hD4 s13 hz3 ⊢
          have em : (ts.map fun t => V.int (S.qof t)) = (ts.map S.qof).map V.int := by
            rw [List.map_map]
            rfl
          rw [em] at hD4
          refine ⟨D2, _, rfl, SqL.of hD4, _, _, rfl, rfl, _, rfl, ?_⟩
          by_cases c2 : (1000000000 : Int) < (ts.map S.qof).sum
          · exact ifT (decide_eq_true c2) (kE _ _ (.inr (.inr (.inr (.inl rfl)))) s13)
          refine ifF (decide_eq_false c2) ?_
          have O3 := O.same s13
          obtain ⟨d3, hof3⟩ := O3.of
          obtain ⟨b3, hb3⟩ := O3.bk
          have x0 := sm.nx0
          have x1 := sm.nx1
          refine ⟨_, rfl, rd_Office_book T hof3 ⟨L.bk, b3, _, rfl, hb3, ln_Book_new_ids _ _ _ _ _, L, S, 1, rfl, O3, sm.nm100, x0, by omega, by decide, fun r hr => ?_⟩⟩
          have e1 : idsV S.name S.nx 1 = [V.str (idf S.name S.nx)] := by
            unfold idsV
            simp
          rw [e1]
          have s4 := Same.upd (H := H2) (o := HO.lst [V.str (idf S.name S.nx)]) hr
          refine ixL T upd_same (.str (idf S.name S.nx)) ?_
          have s14 := Same.tr s13 s4
          have hz4 := s4 _ _ hz3
          generalize hH3 : upd H2 r (HO.lst [V.str (idf S.name S.nx)]) = H3 at s4 s14 hz4 ⊢
          have O4 := O.same s14
          obtain ⟨d4, hof4⟩ := O4.of
          refine ⟨_, rfl, L.of, d4, _, rfl, hof4, ln_Office_write _ _ _, ?_⟩
          refine ⟨_, rfl, line16 (by show 2 ≤ 16000000; decide), fun l hl => ?_⟩
          have s5 := Same.upd (H := H3) (o := HO.lst [V.str "join", V.str (idf S.name S.nx)]) hl
          have hl5 := upd_same (H := H3) (a := l) (o := HO.lst [V.str "join", V.str (idf S.name S.nx)])
          have hz5 := s5 _ _ hz4
          have s15 := Same.tr s14 s5
          generalize hH4 : upd H3 l (HO.lst [V.str "join", V.str (idf S.name S.nx)]) = H4 at s5 hl5 hz5 s15 ⊢
          refine ⟨_, rfl, z, _, rfl, .inl (SqL.of hz5), fun l2 hl2 => ?_⟩
          have s6 := Same.upd (H := H4) (o := HO.lst (ts.map V.str)) hl2
          have hl6 := upd_same (H := H4) (a := l2) (o := HO.lst (ts.map V.str))
          have hl56 := s6 _ _ hl5
          have s16 := Same.tr s15 s6
          generalize hH5 : upd H4 l2 (HO.lst (ts.map V.str)) = H5 at s6 hl6 hl56 s16 ⊢
          refine ⟨l, l2, _, _, rfl, rfl, hl56, hl6, line16 (by rw [List.length_map]; show 2 + ts.length ≤ _; omega), fun l3 hl3 => ?_⟩
          have s7 := Same.upd (H := H5) (o := HO.lst ([V.str "join", V.str (idf S.name S.nx)] ++ ts.map V.str)) hl3
          have hl7 := upd_same (H := H5) (a := l3) (o := HO.lst ([V.str "join", V.str (idf S.name S.nx)] ++ ts.map V.str))
          have s17 := Same.tr s16 s7
          generalize hH6 : upd H5 l3 (HO.lst ([V.str "join", V.str (idf S.name S.nx)] ++ ts.map V.str)) = H6 at s7 hl7 s17 ⊢
          refine ⟨l3, _, rfl, .inl ⟨SqL.of hl7, fun a ha => ?_⟩⟩
          have s8 := Same.upd (H := H6) (o := HO.tup (Line.joi (idf S.name S.nx) ts).enc) ha
          have O6 := O.same s17
          have tk := idf_tk sm.nm x0 (by omega)
          have smc := sm.chs
          obtain ⟨t0, r0, ets⟩ : ∃ t0 r0, ts = t0 :: r0 := by
            cases ts with
            | nil => exact absurd (show ([] : List Str).length < 2 by decide) c1
            | cons x y => exact ⟨x, y, rfl⟩
          obtain ⟨e0, he0, _⟩ := hall t0 (by rw [ets]; exact List.mem_cons_self)
          refine ⟨L, S, a, .joi (idf S.name S.nx) ts, rfl, O6.same s8, upd_same, ⟨sm.fresh S.nx (Int.le_refl _) (by omega), fun q => ?_, by omega, fun t mt => ?_⟩, sm.es9, sm.ln9, ?_, ?_, fun H' L' S' ap st => ?_⟩
          · rw [q] at ets
            cases ets
          · obtain ⟨e, he, _⟩ := hall t mt
            have := ch_le (gt_mem he)
            exact ⟨e, he, by omega⟩
          · refine wds_cons (wd_str ⟨by decide +kernel, by decide +kernel⟩) (wds_cons (wd_str tk) fun v hv => ?_)
            obtain ⟨t, mt, rfl⟩ := List.mem_map.mp hv
            obtain ⟨e, he, _⟩ := hall t mt
            exact wd_str (sm.ent t e he).tk
          · show (ts.map V.str).length + 1 + 1 ≤ 1000
            rw [List.length_map]
            omega
          · obtain ⟨t1, r1, e1', et1, he1, ap⟩ := ap
            have he1 : S.get t1 = some e1' := he1
            subst ap
            have st1 := ((Stp.same O s17).trans (Stp.same O6 s8)).trans st
            refine ⟨_, rfl, k t1 r1 e1' et1 he1 ?_ (by omega) ?_ (by omega) H' L' st1⟩
            · rw [List.nodup_iff_pairwise_ne, List.pairwise_iff_getElem]
              intro i j hi hj hij ne
              have h1 := (hyp j ts[j] hj (List.getElem?_eq_getElem hj)).1
              refine h1 ?_
              rw [← ne]
              exact List.mem_take_iff_getElem.mpr ⟨i, by omega, rfl⟩
            · intro t mt
              obtain ⟨e, he, hh, hc⟩ := hall t mt
              refine ⟨e, he, hh, hc, ?_⟩
              obtain ⟨j, hj, ej⟩ := List.mem_iff_getElem.mp mt
              have h2 := (hyp j t hj (by rw [← ej]; exact List.getElem?_eq_getElem hj)).2 t1 (by rw [et1]; rfl)
              unfold homeOf at h2
              rw [he, he1] at h2
              exact h2
end LH
namespace LH
open PySem PySem.Spec PyProof.Rows L2
/-! ### the world: the net and four offices -/
structure WS where
  S : Str → OSt
  ns : List Ltr
structure WLay where
  wa : Addr
  nt : Addr
  nl : Addr
  od : Addr
  Ls : Str → Lay
def WS.put (X : WS) (o : Str) (S' : OSt) : WS := { X with S := fun p => if p = o then S' else X.S p }
def WLay.put (W : WLay) (o : Str) (L' : Lay) : WLay := { W with Ls := fun p => if p = o then L' else W.Ls p }
def odKV (W : WLay) : List (Key × V) := names4.map fun o => (Sum.inr o, V.ref (W.Ls o).of)
structure WAt (K : PySem.W.Frag) (H : Hp) (W : WLay) (X : WS) : Prop where
  w : ∃ dx, H W.wa = some (.ins (cWorld K) dx (wldF W.nt W.od))
  net : ∃ ys, NetAt K H W.nt W.nl ys ∧ Tups H ys (X.ns.map Ltr.enc)
  od : H W.od = some (.dK (odKV W))
  off : ∀ o ∈ names4, OffAt K H (W.Ls o) (X.S o)
  nm : ∀ o ∈ names4, (X.S o).name = o
  sep : ∀ o ∈ names4, ∀ p ∈ names4, o ≠ p → ∀ b, Foot (W.Ls o) (X.S o) b → ¬ Foot (W.Ls p) (X.S p) b
  out : ∀ o ∈ names4, ∀ b, Foot (W.Ls o) (X.S o) b → b ≠ W.wa ∧ b ≠ W.nt ∧ b ≠ W.nl ∧ b ≠ W.od
def WFoot (W : WLay) (X : WS) (b : Addr) : Prop := b = W.wa ∨ b = W.nt ∨ b = W.nl ∨ b = W.od ∨ ∃ o ∈ names4, Foot (W.Ls o) (X.S o) b
structure WStp (K : PySem.W.Frag) (H : Hp) (W : WLay) (X : WS) (H' : Hp) (W' : WLay) (X' : WS) : Prop where
  at_ : WAt K H' W' X'
  fr : Frm H (WFoot W X) H' (WFoot W' X')
  wa : W'.wa = W.wa
section
variable {K : PySem.W.Frag} {H H' : Hp} {W : WLay} {X : WS}
theorem WStp.trans {H1 H2 : Hp} {W1 W2 : WLay} {X1 X2 : WS} (a : WStp K H W X H1 W1 X1) (b : WStp K H1 W1 X1 H2 W2 X2) : WStp K H W X H2 W2 X2 := ⟨b.at_, a.fr.trans b.fr, b.wa.trans a.wa⟩
theorem WStp.refl (h : WAt K H W X) : WStp K H W X H W X := ⟨h, Frm.refl _ _, rfl⟩
/-- an office stands where its objects stand -/
theorem OffAt.keep {L : Lay} {S : OSt} (h : OffAt K H L S) (k : ∀ b, Foot L S b → H' b = H b) (kt : ∀ a r, H a = some (.tup r) → H' a = some (.tup r)) : OffAt K H' L S where
  of := h.of.imp fun _ q => (k _ (.inl rfl)).trans q
  bk := h.bk.imp fun _ q => (k _ (.inr (.inl rfl))).trans q
  ln := h.ln.imp fun _ q => ⟨q.1, (k _ (.inr (.inr (.inl rfl)))).trans q.2⟩
  en := (k _ (.inr (.inr (.inr (.inl rfl))))).trans h.en
  pa := h.pa.imp fun _ q => ⟨(k _ (.inr (.inr (.inr (.inr (.inl rfl)))))).trans q.1, fun p hp => kt _ _ (q.2 p hp)⟩
  ent := fun t e m => (h.ent t e m).imp fun _ q => (k _ (.inr (.inr (.inr (.inr (.inr ⟨t, List.mem_map.mpr ⟨_, m, rfl⟩, .inl rfl⟩)))))).trans q
  chl := fun t e m => (k _ (.inr (.inr (.inr (.inr (.inr ⟨t, List.mem_map.mpr ⟨_, m, rfl⟩, .inr rfl⟩)))))).trans (h.chl t e m)
  nd := h.nd
  ndp := h.ndp
  cinj := h.cinj
  cln := h.cln
  enpa := h.enpa
theorem Stp.tups {L L' : Lay} {S S' : OSt} (st : Stp K H L S H' L' S') (O : OffAt K H L S) : ∀ a r, H a = some (.tup r) → H' a = some (.tup r) := fun a r q => st.fr.tup O q
theorem put_S (X : WS) (o : Str) (S' : OSt) : (X.put o S').S o = S' := if_pos rfl
theorem put_S' (X : WS) {o p : Str} (S' : OSt) (h : p ≠ o) : (X.put o S').S p = X.S p := if_neg h
theorem put_L (W : WLay) (o : Str) (L' : Lay) : (W.put o L').Ls o = L' := if_pos rfl
theorem put_L' (W : WLay) {o p : Str} (L' : Lay) (h : p ≠ o) : (W.put o L').Ls p = W.Ls p := if_neg h
/-- what is of the world is there and is changed -/
theorem WAt.foot (h : WAt K H W X) {b : Addr} (f : WFoot W X b) : ∃ o, H b = some o ∧ isMut o := by
  rcases f with rfl | rfl | rfl | rfl | ⟨o, ho, f⟩
  · obtain ⟨dx, q⟩ := h.w
    exact ⟨_, q, trivial⟩
  · obtain ⟨ys, ⟨dx, q, _⟩, _⟩ := h.net
    exact ⟨_, q, trivial⟩
  · obtain ⟨ys, ⟨dx, _, q⟩, _⟩ := h.net
    exact ⟨_, q, trivial⟩
  · exact ⟨_, h.od, trivial⟩
  · exact (h.off o ho).foot f
theorem WAt.none (h : WAt K H W X) {b : Addr} (e : H b = none) : ¬ WFoot W X b := fun f => by
  obtain ⟨o, q, _⟩ := h.foot f
  rw [e] at q
  cases q
theorem WStp.tup {H1 : Hp} {W1 : WLay} {X1 : WS} (st : WStp K H W X H1 W1 X1) (h : WAt K H W X) {b : Addr} {vs : List V} (q : H b = some (.tup vs)) : H1 b = some (.tup vs) := st.fr.keep b _ q fun f => by
  obtain ⟨o, e, m⟩ := h.foot f
  rw [q] at e
  cases e
  exact m
/-- an office does a step -/
theorem wst_off (h : WAt K H W X) {o : Str} (ho : o ∈ names4) {L' : Lay} {S' : OSt} (st : Stp K H (W.Ls o) (X.S o) H' L' S') : WStp K H W X H' (W.put o L') (X.put o S') := by
  have O := h.off o ho
  have nf : ∀ b, H b ≠ none → ¬ Foot (W.Ls o) (X.S o) b → H' b = H b := fun b hb n => by
    cases e : H b with
    | none => exact absurd e hb
    | some u => exact st.fr.keep b u e n
  have same : ∀ {b : Addr} {u : HO}, H b = some u → ¬ Foot (W.Ls o) (X.S o) b → H' b = some u := fun e n => st.fr.keep _ _ e n
  have nw : ∀ b, (b = W.wa ∨ b = W.nt ∨ b = W.nl ∨ b = W.od) → ¬ Foot (W.Ls o) (X.S o) b := fun b z f => by
    obtain ⟨q1, q2, q3, q4⟩ := h.out o ho b f
    rcases z with z | z | z | z
    · exact q1 z
    · exact q2 z
    · exact q3 z
    · exact q4 z
  have newf : ∀ b, Foot L' S' b → Foot (W.Ls o) (X.S o) b ∨ H b = none := st.fr.new
  refine ⟨⟨?_, ?_, ?_, fun p hp => ?_, fun p hp => ?_, fun p hp q hq ne b f g => ?_, fun p hp b f => ?_⟩, ⟨fun b u e n => ?_, fun b f => ?_, st.fr.grow⟩, rfl⟩
  · obtain ⟨dx, q⟩ := h.w
    exact ⟨dx, same q (nw _ (.inl rfl))⟩
  · obtain ⟨ys, ⟨dx, q1, q2⟩, tp⟩ := h.net
    exact ⟨ys, ⟨dx, same q1 (nw _ (.inr (.inl rfl))), same q2 (nw _ (.inr (.inr (.inl rfl))))⟩, tp.mono fun a r e => st.fr.tup O e⟩
  · have e : odKV (W.put o L') = odKV W := by
      unfold odKV
      refine List.map_congr_left fun p hp => ?_
      by_cases z : p = o
      · rw [z, put_L, st.ex.of]
      · rw [put_L' _ _ z]
    rw [e]
    exact same h.od (nw _ (.inr (.inr (.inr rfl))))
  · by_cases z : p = o
    · rw [z, put_L, put_S]
      exact st.at_
    · rw [put_L' _ _ z, put_S' _ _ z]
      refine (h.off p hp).keep (fun b f => ?_) (fun a r e => st.fr.tup O e)
      obtain ⟨u, e, _⟩ := (h.off p hp).foot f
      exact nf b (by rw [e]; intro w; cases w) (h.sep p hp o ho z b f)
  · by_cases z : p = o
    · rw [z, put_S, st.nm, h.nm o ho]
    · rw [put_S' _ _ z, h.nm p hp]
  · have old : ∀ r ∈ names4, r ≠ o → Foot L' S' b → ¬ Foot (W.Ls r) (X.S r) b := fun r hr ne f g => by
      rcases newf b f with f | f
      · exact h.sep o ho r hr (Ne.symm ne) b f g
      · obtain ⟨u, e, _⟩ := (h.off r hr).foot g
        rw [f] at e
        cases e
    by_cases z : p = o
    · have z2 : q ≠ o := fun w => ne (z.trans w.symm)
      rw [z, put_L, put_S] at f
      rw [put_L' _ _ z2, put_S' _ _ z2] at g
      exact old q hq z2 f g
    · rw [put_L' _ _ z, put_S' _ _ z] at f
      by_cases z2 : q = o
      · rw [z2, put_L, put_S] at g
        exact old p hp z g f
      · rw [put_L' _ _ z2, put_S' _ _ z2] at g
        exact h.sep p hp q hq ne b f g
  · by_cases z : p = o
    · rw [z, put_L, put_S] at f
      rcases newf b f with f | f
      · exact h.out o ho b f
      · have nn : ∀ {c : Addr}, WFoot W X c → b ≠ c := fun w e => h.none f (by rw [e]; exact w)
        exact ⟨nn (.inl rfl), nn (.inr (.inl rfl)), nn (.inr (.inr (.inl rfl))), nn (.inr (.inr (.inr (.inl rfl))))⟩
    · rw [put_L' _ _ z, put_S' _ _ z] at f
      exact h.out p hp b f
  · exact st.fr.keep b u e fun f => n (.inr (.inr (.inr (.inr ⟨o, ho, f⟩))))
  · rcases f with f | f | f | f | ⟨p, hp, f⟩
    · exact .inl (.inl f)
    · exact .inl (.inr (.inl f))
    · exact .inl (.inr (.inr (.inl f)))
    · exact .inl (.inr (.inr (.inr (.inl f))))
    · by_cases z : p = o
      · rw [z, put_L, put_S] at f
        rcases newf b f with f | f
        · exact .inl (.inr (.inr (.inr (.inr ⟨o, ho, f⟩))))
        · exact .inr f
      · rw [put_L' _ _ z, put_S' _ _ z] at f
        exact .inl (.inr (.inr (.inr (.inr ⟨p, hp, f⟩))))
theorem WAt.same (h : WAt K H W X) (s : Same H H') : WAt K H' W X where
  w := h.w.imp fun _ q => s _ _ q
  net := h.net.imp fun _ q => ⟨q.1.imp fun _ z => ⟨s _ _ z.1, s _ _ z.2⟩, q.2.same s⟩
  od := s _ _ h.od
  off := fun o ho => (h.off o ho).same s
  nm := h.nm
  sep := h.sep
  out := h.out
theorem WStp.same (h : WAt K H W X) (s : Same H H') : WStp K H W X H' W X := ⟨h.same s, Frm.same _ s, rfl⟩
/-- the net changes: the net's object and its list -/
theorem wst_net (h : WAt K H W X) {nl2 : Addr} {ys : List V} {ns : List Ltr} {dx : Addr} (n1 : nl2 = W.nl ∨ H nl2 = none) (h1 : H' W.nt = some (.ins (cNet K) dx (netF nl2))) (h2 : H' nl2 = some (.lst ys)) (tp : Tups H' ys (ns.map Ltr.enc))
    (k : ∀ b u, H b = some u → b ≠ W.nt → b ≠ W.nl → H' b = some u) (gr : ∀ b, H b ≠ none → H' b ≠ none) (kt : ∀ a r, H a = some (.tup r) → H' a = some (.tup r)) : WStp K H W X H' { W with nl := nl2 } { X with ns := ns } := by
  have nn : ∀ {b u}, H b = some u → b ≠ W.nl → b ≠ nl2 := fun {b u} e n z => by
    rcases n1 with q | q
    · exact n (z.trans q)
    · rw [z, q] at e
      cases e
  obtain ⟨dw, qw⟩ := h.w
  obtain ⟨ys0, ⟨dn, qn, ql⟩, tp0⟩ := h.net
  have wnt : W.wa ≠ W.nt := fun z => by
    rw [z, qn] at qw
    injection qw with qw
    injection qw with _ _ qw
    have := congrArg List.length qw
    simp [netF, wldF] at this
  have wnl : W.wa ≠ W.nl := ne_of qw ql (by intro z; cases z)
  have ont : W.od ≠ W.nt := ne_of h.od qn (by intro z; cases z)
  have onl : W.od ≠ W.nl := ne_of h.od ql (by intro z; cases z)
  refine ⟨⟨⟨dw, k _ _ qw wnt wnl⟩, ⟨ys, ⟨dx, h1, h2⟩, tp⟩, k _ _ h.od ont onl, fun o ho => ?_, h.nm, h.sep, fun o ho b f => ?_⟩, ⟨fun b u e n => ?_, fun b f => ?_, gr⟩, rfl⟩
  · refine (h.off o ho).keep (fun b f => ?_) kt
    obtain ⟨u, e, _⟩ := (h.off o ho).foot f
    obtain ⟨_, z2, z3, _⟩ := h.out o ho b f
    rw [e]
    exact k b u e z2 z3
  · obtain ⟨u, e, _⟩ := (h.off o ho).foot f
    obtain ⟨z1, z2, z3, z4⟩ := h.out o ho b f
    exact ⟨z1, z2, nn e z3, z4⟩
  · exact k b u e (fun z => n (.inr (.inl z))) fun z => n (.inr (.inr (.inl z)))
  · rcases f with f | f | f | f | f
    · exact .inl (.inl f)
    · exact .inl (.inr (.inl f))
    · rcases n1 with q | q
      · exact .inl (.inr (.inr (.inl (f.trans q))))
      · have f : b = nl2 := f
        rw [f]
        exact .inr q
    · exact .inl (.inr (.inr (.inr (.inl f))))
    · exact .inl (.inr (.inr (.inr (.inr f))))
end
end LH
namespace LH
open PySem PySem.Spec PyProof.Rows L2
/-! ### the world's defs -/
theorem valV_map (f : Str → V) : ∀ (l : List Str) {o : Str}, o ∈ l → valV (l.map fun o => ((Sum.inr o : Key), f o)) (Sum.inr o) = some (f o)
  | x :: r, o, h => by
    rw [List.map_cons]
    by_cases e : x = o
    · rw [valV_pos (p := ((Sum.inr x : Key), f x)) (by rw [e]), e]
    · rw [valV_neg (p := ((Sum.inr x : Key), f x)) (fun z => e (Sum.inr.inj z))]
      exact valV_map f r ((List.mem_cons.mp h).resolve_left fun z => e z.symm)
theorem od_val (W : WLay) {o : Str} (h : o ∈ names4) : valV (odKV W) (Sum.inr o : Key) = some (.ref (W.Ls o).of) := valV_map (fun o => V.ref (W.Ls o).of) names4 h
theorem sorted4 : ∀ ys : List Str, ys.Perm names4 → sortedS ys = true → ys = names4 := by
  intro ys hp hs
  have hl : ys.length = 4 := hp.length_eq
  have nd : ys.Nodup := hp.nodup_iff.mpr (by decide +kernel)
  have hm : ∀ y ∈ ys, y ∈ names4 := fun y hy => hp.mem_iff.mp hy
  have all : ∀ a ∈ names4, ∀ b ∈ names4, ∀ c ∈ names4, ∀ d ∈ names4, sortedS [a, b, c, d] = true → [a, b, c, d].Nodup → [a, b, c, d] = names4 := by decide +kernel
  match ys, hl, hs, nd, hm with
  | [a, b, c, d], _, hs, nd, hm => exact all a (hm a (by simp)) b (hm b (by simp)) c (hm c (by simp)) d (hm d (by simp)) hs nd
def spWNames (K : PySem.W.Frag) : Sp := fun vs H Q _ => ∃ (W : WLay) (X : WS), vs = [.ref W.wa] ∧ WAt K H W X ∧ ∀ r, H r = none → Q (.ref r) (upd H r (.lst (names4.map V.str)))
theorem sc_World_names : FnScope ["self"] ["self"] (defScope sWorld_names) := ⟨rfl, rfl, rfl, by decide +kernel, rfl, by decide +kernel, by decide +kernel⟩
abbrev Ok_World_names (P : Program) (w : World) (K : PySem.W.Frag) (mg : Str → Option Value) (base : Heap) : Prop := Has P w K mg base CX0 1 (fWorld_names K) ["self"] (spWNames K)
theorem ok_World_names {P : Program} {w : World} {K : PySem.W.Frag} {mg : Str → Option Value} {base : Heap} (T : Txt K mg) : Ok_World_names P w K mg base := by
  obtain ⟨fd, F⟩ := T.dWorld_names
  refine ⟨fd, FunD.ok (CX := CX0) F sc_World_names (fun vs H Q E h => ?_) (fun cdv A outer s H vs Q E hr h => ?_), FunD.bindsN F fun _ _ _ _ _ _ us hl => match us, hl with | [_], _ => rfl⟩
  · obtain ⟨W, X, rfl, _⟩ := h
    rfl
  · have hu := hu_of hr
    refine ⟨_, PSs.nox (pss_one (ps_ret (pe_callB (call_sortedD rfl) (by rfl) T.b_sorted (by decide +kernel) (pa_cons (pe_fld (pv 0) rfl) pa_nil)))), ?_⟩
    obtain ⟨W, X, rfl, A1, k⟩ := h
    obtain ⟨dw, hw⟩ := A1.w
    refine ⟨_, rfl, rd_World_offices T hw ⟨W.od, odKV W, names4, rfl, .of A1.od, ?_, by decide +kernel, fun ys p hp hs hf => ?_⟩⟩
    · unfold odKV
      rw [List.map_map]
      rfl
    · rw [sorted4 ys hp hs]
      exact k p hf
theorem od_get {K : PySem.W.Frag} {H : Hp} {W : WLay} {X : WS} (h : WAt K H W X) {o : Str} (ho : o ∈ names4) : DGet H W.od (.str o) (some (V.ref (W.Ls o).of)) := by
  have q := DGet.k (k := (Sum.inr o : Key)) h.od
  rw [od_val W ho] at q
  exact q
def spWOffice (K : PySem.W.Frag) : Sp := fun vs H Q _ => ∃ (W : WLay) (X : WS) (o : Str), vs = [.ref W.wa, .str o] ∧ WAt K H W X ∧ o ∈ names4 ∧ Q (.ref (W.Ls o).of) H
theorem sc_World_office : FnScope ["self", "name"] ["self", "name"] (defScope sWorld_office) := ⟨rfl, rfl, rfl, by decide +kernel, rfl, by decide +kernel, by decide +kernel⟩
abbrev Ok_World_office (P : Program) (w : World) (K : PySem.W.Frag) (mg : Str → Option Value) (base : Heap) : Prop := Has P w K mg base CX0 1 (fWorld_office K) ["self", "name"] (spWOffice K)
theorem ok_World_office {P : Program} {w : World} {K : PySem.W.Frag} {mg : Str → Option Value} {base : Heap} (T : Txt K mg) : Ok_World_office P w K mg base := by
  obtain ⟨fd, F⟩ := T.dWorld_office
  refine ⟨fd, FunD.ok (CX := CX0) F sc_World_office (fun vs H Q E h => ?_) (fun cdv A outer s H vs Q E hr h => ?_), FunD.bindsN F fun _ _ _ _ _ _ us hl => match us, hl with | [_, _], _ => rfl⟩
  · obtain ⟨W, X, o, rfl, _⟩ := h
    rfl
  · have hu := hu_of hr
    refine ⟨_, PSs.nox (pss_cons (ps_if (pt_cmp (pc_dnotin hu (pv 1) (pe_fld (pv 0) rfl))) (pss_one ps_never) pss_nil)
      (pss_one (ps_ret (pe_dget hu (pe_fld (pv 0) rfl) (pv 1) (fun _ _ => rfl))))), ?_⟩
    obtain ⟨W, X, o, rfl, A1, ho, k⟩ := h
    obtain ⟨dw, hw⟩ := A1.w
    refine ⟨_, rfl, _, rfl, rd_World_offices T hw ⟨W.od, _, rfl, DGet.k (k := Sum.inr o) A1.od, ?_⟩⟩
    rw [od_val W ho]
    refine ⟨_, rfl, ifF rfl ?_⟩
    exact ⟨_, rfl, rd_World_offices T hw ⟨_, rfl, W.od, _, rfl, od_get A1 ho, k⟩⟩
/-! letters into the net -/
def WS.send (X : WS) (ls : List Ltr) : WS := { X with ns := X.ns ++ ls }
theorem wst_send {K : PySem.W.Frag} {H : Hp} {W : WLay} {X : WS} (h : WAt K H W X) {ys : List V} {dx a : Addr} {l : Ltr} (h1 : H W.nt = some (.ins (cNet K) dx (netF W.nl))) (h2 : H W.nl = some (.lst ys)) (tp : Tups H ys (X.ns.map Ltr.enc)) (ha : H a = some (.tup l.enc)) :
    WStp K H W X (upd H W.nl (.lst (ys ++ [.ref a]))) W (X.send [l]) := by
  have nt : W.nt ≠ W.nl := ne_of h1 h2 (by intro z; cases z)
  have kt : ∀ b r, H b = some (.tup r) → upd H W.nl (.lst (ys ++ [V.ref a])) b = some (.tup r) := fun b r e => (upd_ne (ne_of e h2 (by intro z; cases z))).trans e
  refine wst_net h (nl2 := W.nl) (ys := ys ++ [.ref a]) (ns := X.ns ++ [l]) (dx := dx) (.inl rfl) ((upd_ne nt).trans h1) upd_same ?_ (fun b u e n1 n2 => (upd_ne n2).trans e) (fun b n => ?_) kt
  · rw [List.map_append]
    exact (tp.snoc ha).mono kt
  · by_cases z : b = W.nl
    · rw [z, upd_same]
      intro w
      cases w
    · rw [upd_ne z]
      exact n
def spWSend (K : PySem.W.Frag) : Sp := fun vs H Q _ => ∃ (W : WLay) (X : WS) (z : Addr) (ys : List V) (ls : List Ltr), vs = [.ref W.wa, .ref z] ∧ WAt K H W X ∧ H z = some (.lst ys) ∧ Tups H ys (ls.map Ltr.enc) ∧ ¬ WFoot W X z ∧ X.ns.length + ls.length ≤ 16000000 ∧
  ∀ H', WStp K H W X H' W (X.send ls) → Q .non H'
theorem send_send (X : WS) (a b : List Ltr) : (X.send a).send b = X.send (a ++ b) := by
  unfold WS.send
  rw [List.append_assoc]
theorem send_nil (X : WS) : X.send [] = X := by
  unfold WS.send
  rw [List.append_nil]
theorem sc_World_send : FnScope ["self", "letters", "letter"] ["self", "letters"] (defScope sWorld_send) := ⟨rfl, rfl, rfl, by decide +kernel, rfl, by decide +kernel, by decide +kernel⟩
abbrev Ok_World_send (P : Program) (w : World) (K : PySem.W.Frag) (mg : Str → Option Value) (base : Heap) : Prop := Has P w K mg base CX0 2 (fWorld_send K) ["self", "letters"] (spWSend K)
theorem ok_World_send {P : Program} {w : World} {K : PySem.W.Frag} {mg : Str → Option Value} {base : Heap} (T : Txt K mg) (h_Net_send : Ok_Net_send P w K mg base) : Ok_World_send P w K mg base := by
  obtain ⟨fd, F⟩ := T.dWorld_send
  obtain ⟨fd_Net_send, G_Net_send, b_Net_send⟩ := h_Net_send
  refine ⟨fd, FunD.ok (CX := CX0) F sc_World_send (fun vs H Q E h => ?_) (fun cdv A outer s H vs Q E hr h => ?_), FunD.bindsN F fun _ _ _ _ _ _ us hl => match us, hl with | [_, _], _ => rfl⟩
  · obtain ⟨W, X, z, ys, ls, rfl, _⟩ := h
    rfl
  · have hu := hu_of hr
    refine ⟨_, PSs.nox (pss_one (ps_for PassesOwn.never rfl (pi_list (pv 1)) (pg_name (i := 2) sc_World_send.nd rfl (Or.inl rfl)) (pss_one (ps_expr (pe_meth (pe_fld (pv 0) rfl) T.cl_Net T.m_Net_send G_Net_send (hr.mono (by decide)) b_Net_send .nil pass0 (pa_cons (pv 2) pa_nil)))))), ?_⟩
    obtain ⟨W, X, z, ys, ls, rfl, A1, hz, tp, nf, hb, k⟩ := h
    have elen := tp.len
    rw [List.length_map] at elen
    refine ⟨_, rfl, z, rfl, ⟨_, SqL.of hz⟩, for_list (K := K) (a := z) (xs := ys)
      (fun i σ H' => ∃ v2, σ = [some (.ref W.wa), some (.ref z), v2] ∧ WStp K H W X H' W (X.send (ls.take i))) ⟨_, rfl, ?_⟩ ?_ ?_ ?_⟩
    · rw [List.take_zero, send_nil]
      exact WStp.refl A1
    · rintro i σ H' _ ⟨v2, rfl, st⟩
      exact SqL.of (st.fr.keep z _ hz nf)
    · rintro i x σ H' hx ⟨v2, rfl, st⟩
      obtain ⟨a, row, g1, rfl, g3⟩ := tp.get hx
      rw [List.getElem?_map] at g1
      obtain ⟨l, hl, rfl⟩ := Option.map_eq_some_iff.mp g1
      have ha := st.tup A1 g3
      obtain ⟨dw, hw⟩ := st.at_.w
      obtain ⟨zs, ⟨dn, hn1, hn2⟩, tz⟩ := st.at_.net
      have zl := tz.len
      rw [List.length_map] at zl
      have zl2 : (X.send (ls.take i)).ns.length = X.ns.length + min i ls.length := by
        show (X.ns ++ ls.take i).length = _
        rw [List.length_append, List.length_take]
      have hil := (List.getElem?_eq_some_iff.mp hl).1
      refine ⟨_, rfl, rd_World_net T hw ⟨W.nt, dn, _, rfl, hn1, ln_Net_send _, _, rfl, W.nt, W.nl, zs, .ref a, rfl, ⟨dn, hn1, hn2⟩, lt_line (by omega), ?_⟩⟩
      refine ⟨_, rfl, ?_⟩
      rw [take_snoc hl, ← send_send]
      exact st.trans (wst_send st.at_ hn1 hn2 tz ha)
    · rintro σ H' ⟨v2, rfl, st⟩
      rw [elen, List.take_length] at st
      exact k H' st
theorem wfresh {K : PySem.W.Frag} {H : Hp} {W : WLay} {X : WS} (h : WAt K H W X) {o : Str} {L' : Lay} {S' : OSt} {z : Addr} (hz : H z = none) (nf : ¬ Foot L' S' z) : ¬ WFoot (W.put o L') (X.put o S') z := fun f => by
  rcases f with f | f | f | f | ⟨p, hp, f⟩
  · exact h.none hz (.inl f)
  · exact h.none hz (.inr (.inl f))
  · exact h.none hz (.inr (.inr (.inl f)))
  · exact h.none hz (.inr (.inr (.inr (.inl f))))
  · by_cases e : p = o
    · rw [e, put_L, put_S] at f
      exact nf f
    · rw [put_L' _ _ e, put_S' _ _ e] at f
      exact h.none hz (.inr (.inr (.inr (.inr ⟨p, hp, f⟩))))
/-! commands -/
def spWCreate (K : PySem.W.Frag) : Sp := fun vs H Q E => ∃ (W : WLay) (X : WS) (o : Str) (q : Int), vs = [.ref W.wa, .str o, .int q] ∧ WAt K H W X ∧ o ∈ names4 ∧ Small (X.S o) ∧ Errs K H E ∧
  ((1 ≤ q ∧ q ≤ 1000000000) → ∀ H' W', WStp K H W X H' W' (X.put o ((X.S o).lnup.begin_ (idf o (X.S o).nx) (some o) q)) → Q (.str (idf o (X.S o).nx)) H')
theorem sc_World_create : FnScope ["self", "name", "quantity"] ["self", "name", "quantity"] (defScope sWorld_create) := ⟨rfl, rfl, rfl, by decide +kernel, rfl, by decide +kernel, by decide +kernel⟩
abbrev Ok_World_create (P : Program) (w : World) (K : PySem.W.Frag) (mg : Str → Option Value) (base : Heap) : Prop := Has P w K mg base (L2.CX P w) 8 (fWorld_create K) ["self", "name", "quantity"] (spWCreate K)
theorem ok_World_create {P : Program} {w : World} {K : PySem.W.Frag} {mg : Str → Option Value} {base : Heap} (T : Txt K mg) (h_Office_create : Ok_Office_create P w K mg base) (h_World_office : Ok_World_office P w K mg base) : Ok_World_create P w K mg base := by
  obtain ⟨fd, F⟩ := T.dWorld_create
  obtain ⟨fd_Office_create, G_Office_create, b_Office_create⟩ := h_Office_create
  obtain ⟨fd_World_office, G_World_office, b_World_office⟩ := h_World_office
  refine ⟨fd, FunD.ok (CX := (L2.CX P w)) F sc_World_create (fun vs H Q E h => ?_) (fun cdv A outer s H vs Q E hr h => ?_), FunD.bindsN F fun _ _ _ _ _ _ us hl => match us, hl with | [_, _, _], _ => rfl⟩
  · obtain ⟨W, X, o, q, rfl, _⟩ := h
    rfl
  · have hu := hu_of hr
    refine ⟨_, (pss_one (ps_ret (pe_meth (pe_meth (pv 0) T.cl_World T.m_World_office G_World_office (hr.mono (by decide)) b_World_office .nil pass0 (pa_cons (pv 1) pa_nil)) T.cl_Office T.m_Office_create G_Office_create (hr.mono (by decide)) b_Office_create .nil (passes_call (takes_of rfl rfl rfl rfl) (fun _ _ _ _ z => z)) (pa_cons (pv 2) pa_nil)))), ?_⟩
    obtain ⟨W, X, o, q, rfl, A1, ho, sm, kE, k⟩ := h
    have O := A1.off o ho
    have nm := A1.nm o ho
    obtain ⟨d1, hof⟩ := O.of
    obtain ⟨dw, hw⟩ := A1.w
    refine ⟨_, rfl, W.wa, dw, _, rfl, hw, ln_World_office _ _, _, rfl, W, X, o, rfl, A1, ho, _, d1, _, rfl, hof, ln_Office_create _ _ _, _, rfl, W.Ls o, X.S o, q, rfl, O, sm, kE, fun hq H' L' st => ?_⟩
    rw [nm] at st ⊢
    exact k hq H' _ (wst_off A1 ho st)
def spWGive (K : PySem.W.Frag) : Sp := fun vs H Q E => ∃ (W : WLay) (X : WS) (o t r : Str), vs = [.ref W.wa, .str o, .str t, .str r] ∧ WAt K H W X ∧ o ∈ names4 ∧ r ∈ names4 ∧ Small (X.S o) ∧ X.ns.length ≤ 14000000 ∧ Errs K H E ∧
  (r ≠ o → ∀ e, (X.S o).get t = some e → e.st = .held → e.cb = false → ∀ H' W', WStp K H W X H' W' ((X.put o ((X.S o).lnup.give_ t (e.ep + 1) r)).send (letOf o t (giveF (e.ep + 1) r e))) → Q .non H')
theorem sc_World_give : FnScope ["self", "name", "thing", "receiver"] ["self", "name", "thing", "receiver"] (defScope sWorld_give) := ⟨rfl, rfl, rfl, by decide +kernel, rfl, by decide +kernel, by decide +kernel⟩
abbrev Ok_World_give (P : Program) (w : World) (K : PySem.W.Frag) (mg : Str → Option Value) (base : Heap) : Prop := Has P w K mg base (L2.CX P w) 8 (fWorld_give K) ["self", "name", "thing", "receiver"] (spWGive K)
theorem ok_World_give {P : Program} {w : World} {K : PySem.W.Frag} {mg : Str → Option Value} {base : Heap} (T : Txt K mg) (h_World_office : Ok_World_office P w K mg base) (h_World_send : Ok_World_send P w K mg base) (h_Office_give : Ok_Office_give P w K mg base) : Ok_World_give P w K mg base := by
  obtain ⟨fd, F⟩ := T.dWorld_give
  obtain ⟨fd_World_office, G_World_office, b_World_office⟩ := h_World_office
  obtain ⟨fd_World_send, G_World_send, b_World_send⟩ := h_World_send
  obtain ⟨fd_Office_give, G_Office_give, b_Office_give⟩ := h_Office_give
  refine ⟨fd, FunD.ok (CX := (L2.CX P w)) F sc_World_give (fun vs H Q E h => ?_) (fun cdv A outer s H vs Q E hr h => ?_), FunD.bindsN F fun _ _ _ _ _ _ us hl => match us, hl with | [_, _, _, _], _ => rfl⟩
  · obtain ⟨W, X, o, t, r, rfl, _⟩ := h
    rfl
  · have hu := hu_of hr
    refine ⟨_, (pss_cons (ps_expr (pe_meth (pv 0) T.cl_World T.m_World_office G_World_office (hr.mono (by decide)) b_World_office .nil pass0 (pa_cons (pv 3) pa_nil)))
      (pss_one (ps_expr (pe_meth (pv 0) T.cl_World T.m_World_send G_World_send (hr.mono (by decide)) b_World_send .nil pass0 (pa_cons (pe_meth (pe_meth (pv 0) T.cl_World T.m_World_office G_World_office (hr.mono (by decide)) b_World_office .nil pass0 (pa_cons (pv 1) pa_nil)) T.cl_Office T.m_Office_give G_Office_give (hr.mono (by decide)) b_Office_give .nil (passes_call (takes_of rfl rfl rfl rfl) (fun _ _ _ _ z => z)) (pa_cons (pv 2) (pa_cons (pv 3) pa_nil))) pa_nil))))), ?_⟩
    obtain ⟨W, X, o, t, r, rfl, A1, ho, hr4, sm, hb, kE, k⟩ := h
    have O := A1.off o ho
    have nm := A1.nm o ho
    obtain ⟨d1, hof⟩ := O.of
    obtain ⟨dw, hw⟩ := A1.w
    refine ⟨_, rfl, W.wa, dw, _, rfl, hw, ln_World_office _ _, _, rfl, W, X, r, rfl, A1, hr4, ?_⟩
    refine ⟨_, rfl, W.wa, dw, _, rfl, hw, ln_World_send _ _, ?_⟩
    refine ⟨_, rfl, W.wa, dw, _, rfl, hw, ln_World_office _ _, _, rfl, W, X, o, rfl, A1, ho, _, d1, _, rfl, hof, ln_Office_give _ _ _, _, rfl, _, rfl, W.Ls o, X.S o, t, r, rfl, O, sm, hr4, kE, fun hr e he hh hc H' L' z ys st hz nf hy tp => ?_⟩
    rw [nm] at hr tp
    have st1 := wst_off A1 ho st
    have ll := letOf_len o t (giveF (e.ep + 1) r e)
    exact ⟨W.put o L', _, z, ys, letOf o t (giveF (e.ep + 1) r e), rfl, st1.at_, hy, tp, wfresh A1 hz nf, by show X.ns.length + _ ≤ _; omega, fun H2 s2 => k hr e he hh hc H2 _ (st1.trans s2)⟩
def spWUse (K : PySem.W.Frag) : Sp := fun vs H Q E => ∃ (W : WLay) (X : WS) (o t : Str), vs = [.ref W.wa, .str o, .str t] ∧ WAt K H W X ∧ o ∈ names4 ∧ Small (X.S o) ∧ X.ns.length ≤ 14000000 ∧ Errs K H E ∧
  (∀ e, (X.S o).get t = some e → e.st = .held → e.cb = false → ∀ H' W', WStp K H W X H' W' ((X.put o ((X.S o).lnup.mod t useF)).send (letOf o t (useF e))) → Q .non H')
theorem sc_World_use : FnScope ["self", "name", "thing"] ["self", "name", "thing"] (defScope sWorld_use) := ⟨rfl, rfl, rfl, by decide +kernel, rfl, by decide +kernel, by decide +kernel⟩
abbrev Ok_World_use (P : Program) (w : World) (K : PySem.W.Frag) (mg : Str → Option Value) (base : Heap) : Prop := Has P w K mg base (L2.CX P w) 8 (fWorld_use K) ["self", "name", "thing"] (spWUse K)
theorem ok_World_use {P : Program} {w : World} {K : PySem.W.Frag} {mg : Str → Option Value} {base : Heap} (T : Txt K mg) (h_World_send : Ok_World_send P w K mg base) (h_Office_use : Ok_Office_use P w K mg base) (h_World_office : Ok_World_office P w K mg base) : Ok_World_use P w K mg base := by
  obtain ⟨fd, F⟩ := T.dWorld_use
  obtain ⟨fd_World_send, G_World_send, b_World_send⟩ := h_World_send
  obtain ⟨fd_Office_use, G_Office_use, b_Office_use⟩ := h_Office_use
  obtain ⟨fd_World_office, G_World_office, b_World_office⟩ := h_World_office
  refine ⟨fd, FunD.ok (CX := (L2.CX P w)) F sc_World_use (fun vs H Q E h => ?_) (fun cdv A outer s H vs Q E hr h => ?_), FunD.bindsN F fun _ _ _ _ _ _ us hl => match us, hl with | [_, _, _], _ => rfl⟩
  · obtain ⟨W, X, o, t, rfl, _⟩ := h
    rfl
  · have hu := hu_of hr
    refine ⟨_, (pss_one (ps_expr (pe_meth (pv 0) T.cl_World T.m_World_send G_World_send (hr.mono (by decide)) b_World_send .nil pass0 (pa_cons (pe_meth (pe_meth (pv 0) T.cl_World T.m_World_office G_World_office (hr.mono (by decide)) b_World_office .nil pass0 (pa_cons (pv 1) pa_nil)) T.cl_Office T.m_Office_use G_Office_use (hr.mono (by decide)) b_Office_use .nil (passes_call (takes_of rfl rfl rfl rfl) (fun _ _ _ _ z => z)) (pa_cons (pv 2) pa_nil)) pa_nil)))), ?_⟩
    obtain ⟨W, X, o, t, rfl, A1, ho, sm, hb, kE, k⟩ := h
    have O := A1.off o ho
    have nm := A1.nm o ho
    obtain ⟨d1, hof⟩ := O.of
    obtain ⟨dw, hw⟩ := A1.w
    refine ⟨_, rfl, W.wa, dw, _, rfl, hw, ln_World_send _ _, ?_⟩
    refine ⟨_, rfl, W.wa, dw, _, rfl, hw, ln_World_office _ _, _, rfl, W, X, o, rfl, A1, ho, _, d1, _, rfl, hof, ln_Office_use _ _ _, _, rfl, W.Ls o, X.S o, t, rfl, O, sm, kE, fun e he hh hc H' L' z ys st hz nf hy tp => ?_⟩
    rw [nm] at tp
    have st1 := wst_off A1 ho st
    have ll := letOf_len o t (useF e)
    exact ⟨W.put o L', _, z, ys, letOf o t (useF e), rfl, st1.at_, hy, tp, wfresh A1 hz nf, by show X.ns.length + _ ≤ _; omega, fun H2 s2 => k e he hh hc H2 _ (st1.trans s2)⟩
def spWSplit (K : PySem.W.Frag) : Sp := fun vs H Q E => ∃ (W : WLay) (X : WS) (o t : Str) (z : Addr) (ns : List Int), vs = [.ref W.wa, .str o, .str t, .ref z] ∧ WAt K H W X ∧ o ∈ names4 ∧ Small (X.S o) ∧ H z = some (.lst (ns.map V.int)) ∧ ns.length ≤ 100 ∧ Errs K H E ∧
  (∀ e, (X.S o).get t = some e → e.st = .held → e.cb = false → (∀ n ∈ ns, 1 ≤ n ∧ n ≤ 1000000000) → 2 ≤ ns.length → ns.sum = e.qty → ∀ H' W' q, WStp K H W X H' W' (X.put o ((X.S o).lnup.split_ t e.home (psOf o (X.S o).nx ns))) → H q = none → ¬ WFoot W' (X.put o ((X.S o).lnup.split_ t e.home (psOf o (X.S o).nx ns))) q →
    H' q = some (.lst ((idsL o (X.S o).nx ns.length).map V.str)) → Q (.ref q) H')
theorem sc_World_split : FnScope ["self", "name", "thing", "sizes"] ["self", "name", "thing", "sizes"] (defScope sWorld_split) := ⟨rfl, rfl, rfl, by decide +kernel, rfl, by decide +kernel, by decide +kernel⟩
abbrev Ok_World_split (P : Program) (w : World) (K : PySem.W.Frag) (mg : Str → Option Value) (base : Heap) : Prop := Has P w K mg base (L2.CX P w) 8 (fWorld_split K) ["self", "name", "thing", "sizes"] (spWSplit K)
theorem ok_World_split {P : Program} {w : World} {K : PySem.W.Frag} {mg : Str → Option Value} {base : Heap} (T : Txt K mg) (h_Office_split : Ok_Office_split P w K mg base) (h_World_office : Ok_World_office P w K mg base) : Ok_World_split P w K mg base := by
  obtain ⟨fd, F⟩ := T.dWorld_split
  obtain ⟨fd_Office_split, G_Office_split, b_Office_split⟩ := h_Office_split
  obtain ⟨fd_World_office, G_World_office, b_World_office⟩ := h_World_office
  refine ⟨fd, FunD.ok (CX := (L2.CX P w)) F sc_World_split (fun vs H Q E h => ?_) (fun cdv A outer s H vs Q E hr h => ?_), FunD.bindsN F fun _ _ _ _ _ _ us hl => match us, hl with | [_, _, _, _], _ => rfl⟩
  · obtain ⟨W, X, o, t, z, ns, rfl, _⟩ := h
    rfl
  · have hu := hu_of hr
    refine ⟨_, (pss_one (ps_ret (pe_meth (pe_meth (pv 0) T.cl_World T.m_World_office G_World_office (hr.mono (by decide)) b_World_office .nil pass0 (pa_cons (pv 1) pa_nil)) T.cl_Office T.m_Office_split G_Office_split (hr.mono (by decide)) b_Office_split .nil (passes_call (takes_of rfl rfl rfl rfl) (fun _ _ _ _ z => z)) (pa_cons (pv 2) (pa_cons (pv 3) pa_nil))))), ?_⟩
    obtain ⟨W, X, o, t, z, ns, rfl, A1, ho, sm, hz, hl, kE, k⟩ := h
    have O := A1.off o ho
    have nm := A1.nm o ho
    obtain ⟨d1, hof⟩ := O.of
    obtain ⟨dw, hw⟩ := A1.w
    refine ⟨_, rfl, W.wa, dw, _, rfl, hw, ln_World_office _ _, _, rfl, W, X, o, rfl, A1, ho, _, d1, _, rfl, hof, ln_Office_split _ _ _, _, rfl, _, rfl, W.Ls o, X.S o, t, z, ns, rfl, O, sm, hz, hl, kE, fun e he hh hc h1 h2 h3 H' L' q st hq nf hy => ?_⟩
    rw [nm] at st hy nf
    exact k e he hh hc h1 h2 h3 H' _ q (wst_off A1 ho st) hq (wfresh A1 hq nf) hy
def spWJoin (K : PySem.W.Frag) : Sp := fun vs H Q E => ∃ (W : WLay) (X : WS) (o : Str) (z : Addr) (ts : List Str), vs = [.ref W.wa, .str o, .ref z] ∧ WAt K H W X ∧ o ∈ names4 ∧ Small (X.S o) ∧ H z = some (.lst (ts.map V.str)) ∧ ts.length ≤ 100 ∧ Errs K H E ∧
  (∀ t0 r e0, ts = t0 :: r → (X.S o).get t0 = some e0 → ts.Nodup → 2 ≤ ts.length → (∀ t ∈ ts, ∃ e, (X.S o).get t = some e ∧ e.st = .held ∧ e.cb = false ∧ e.home = e0.home) → (ts.map (X.S o).qof).sum ≤ 1000000000 →
    ∀ H' W', WStp K H W X H' W' (X.put o ((X.S o).lnup.join_ (idf o (X.S o).nx) e0.home ts)) → Q (.str (idf o (X.S o).nx)) H')
theorem sc_World_join : FnScope ["self", "name", "things"] ["self", "name", "things"] (defScope sWorld_join) := ⟨rfl, rfl, rfl, by decide +kernel, rfl, by decide +kernel, by decide +kernel⟩
abbrev Ok_World_join (P : Program) (w : World) (K : PySem.W.Frag) (mg : Str → Option Value) (base : Heap) : Prop := Has P w K mg base (L2.CX P w) 8 (fWorld_join K) ["self", "name", "things"] (spWJoin K)
theorem ok_World_join {P : Program} {w : World} {K : PySem.W.Frag} {mg : Str → Option Value} {base : Heap} (T : Txt K mg) (h_Office_join : Ok_Office_join P w K mg base) (h_World_office : Ok_World_office P w K mg base) : Ok_World_join P w K mg base := by
  obtain ⟨fd, F⟩ := T.dWorld_join
  obtain ⟨fd_Office_join, G_Office_join, b_Office_join⟩ := h_Office_join
  obtain ⟨fd_World_office, G_World_office, b_World_office⟩ := h_World_office
  refine ⟨fd, FunD.ok (CX := (L2.CX P w)) F sc_World_join (fun vs H Q E h => ?_) (fun cdv A outer s H vs Q E hr h => ?_), FunD.bindsN F fun _ _ _ _ _ _ us hl => match us, hl with | [_, _, _], _ => rfl⟩
  · obtain ⟨W, X, o, z, ts, rfl, _⟩ := h
    rfl
  · have hu := hu_of hr
    refine ⟨_, (pss_one (ps_ret (pe_meth (pe_meth (pv 0) T.cl_World T.m_World_office G_World_office (hr.mono (by decide)) b_World_office .nil pass0 (pa_cons (pv 1) pa_nil)) T.cl_Office T.m_Office_join G_Office_join (hr.mono (by decide)) b_Office_join .nil (passes_call (takes_of rfl rfl rfl rfl) (fun _ _ _ _ z => z)) (pa_cons (pv 2) pa_nil)))), ?_⟩
    obtain ⟨W, X, o, z, ts, rfl, A1, ho, sm, hz, hl, kE, k⟩ := h
    have O := A1.off o ho
    have nm := A1.nm o ho
    obtain ⟨d1, hof⟩ := O.of
    obtain ⟨dw, hw⟩ := A1.w
    refine ⟨_, rfl, W.wa, dw, _, rfl, hw, ln_World_office _ _, _, rfl, W, X, o, rfl, A1, ho, _, d1, _, rfl, hof, ln_Office_join _ _ _, _, rfl, W.Ls o, X.S o, z, ts, rfl, O, sm, hz, hl, kE, fun t0 r e0 h1 h2 h3 h4 h5 h6 H' L' st => ?_⟩
    rw [nm] at st ⊢
    exact k t0 r e0 h1 h2 h3 h4 h5 h6 H' _ (wst_off A1 ho st)
theorem fur_len {S S' : OSt} (h : S'.es.length ≤ 900000) : (fur S S').length ≤ 1800000 := by
  have a1 := List.length_filter_le (fun l => !decide (l ∈ S.pend)) S'.pend
  have a2 := pend_len S'
  unfold fur
  omega
def spWRecall (K : PySem.W.Frag) : Sp := fun vs H Q E => ∃ (W : WLay) (X : WS) (o t : Str), vs = [.ref W.wa, .str o, .str t] ∧ WAt K H W X ∧ o ∈ names4 ∧ Small (X.S o) ∧ X.ns.length ≤ 14000000 ∧ Errs K H E ∧
  (∀ e, (X.S o).get t = some e → e.st ≠ .unk → e.cb = false → ∀ H' W' S', App (X.S o).lnup (.rcl t) S' → WStp K H W X H' W' ((X.put o S').send (fur (X.S o) S')) → Q .non H')
theorem sc_World_recall : FnScope ["self", "name", "thing"] ["self", "name", "thing"] (defScope sWorld_recall) := ⟨rfl, rfl, rfl, by decide +kernel, rfl, by decide +kernel, by decide +kernel⟩
abbrev Ok_World_recall (P : Program) (w : World) (K : PySem.W.Frag) (mg : Str → Option Value) (base : Heap) : Prop := Has P w K mg base (L2.CX P w) 8 (fWorld_recall K) ["self", "name", "thing"] (spWRecall K)
theorem ok_World_recall {P : Program} {w : World} {K : PySem.W.Frag} {mg : Str → Option Value} {base : Heap} (T : Txt K mg) (h_World_send : Ok_World_send P w K mg base) (h_Office_recall : Ok_Office_recall P w K mg base) (h_World_office : Ok_World_office P w K mg base) : Ok_World_recall P w K mg base := by
  obtain ⟨fd, F⟩ := T.dWorld_recall
  obtain ⟨fd_World_send, G_World_send, b_World_send⟩ := h_World_send
  obtain ⟨fd_Office_recall, G_Office_recall, b_Office_recall⟩ := h_Office_recall
  obtain ⟨fd_World_office, G_World_office, b_World_office⟩ := h_World_office
  refine ⟨fd, FunD.ok (CX := (L2.CX P w)) F sc_World_recall (fun vs H Q E h => ?_) (fun cdv A outer s H vs Q E hr h => ?_), FunD.bindsN F fun _ _ _ _ _ _ us hl => match us, hl with | [_, _, _], _ => rfl⟩
  · obtain ⟨W, X, o, t, rfl, _⟩ := h
    rfl
  · have hu := hu_of hr
    refine ⟨_, (pss_one (ps_expr (pe_meth (pv 0) T.cl_World T.m_World_send G_World_send (hr.mono (by decide)) b_World_send .nil pass0 (pa_cons (pe_meth (pe_meth (pv 0) T.cl_World T.m_World_office G_World_office (hr.mono (by decide)) b_World_office .nil pass0 (pa_cons (pv 1) pa_nil)) T.cl_Office T.m_Office_recall G_Office_recall (hr.mono (by decide)) b_Office_recall .nil (passes_call (takes_of rfl rfl rfl rfl) (fun _ _ _ _ z => z)) (pa_cons (pv 2) pa_nil)) pa_nil)))), ?_⟩
    obtain ⟨W, X, o, t, rfl, A1, ho, sm, hb, kE, k⟩ := h
    have O := A1.off o ho
    obtain ⟨d1, hof⟩ := O.of
    obtain ⟨dw, hw⟩ := A1.w
    refine ⟨_, rfl, W.wa, dw, _, rfl, hw, ln_World_send _ _, ?_⟩
    refine ⟨_, rfl, W.wa, dw, _, rfl, hw, ln_World_office _ _, _, rfl, W, X, o, rfl, A1, ho, _, d1, _, rfl, hof, ln_Office_recall _ _ _, _, rfl, W.Ls o, X.S o, t, rfl, O, sm, kE, fun e he hh hc H' L' S' z ys ap st hz nf hy tp => ?_⟩
    have st1 := wst_off A1 ho st
    have len2 : S'.es.length ≤ 900000 := by
      obtain ⟨c0, q1, q2, q3⟩ := id ap
      rw [q3, setcb_len]
      have z1 := know_len (X.S o).lnup t
      have z2 : (X.S o).lnup.es.length = (X.S o).es.length := rfl
      have z3 := sm.es
      omega
    have fl := fur_len (S := X.S o) len2
    exact ⟨W.put o L', _, z, ys, fur (X.S o) S', rfl, st1.at_, hy, tp, wfresh A1 hz nf, by show X.ns.length + _ ≤ _; omega, fun H2 s2 => k e he hh hc H2 _ S' ap (st1.trans s2)⟩
def spWTick (K : PySem.W.Frag) : Sp := fun vs H Q _ => ∃ (W : WLay) (X : WS) (o : Str), vs = [.ref W.wa, .str o] ∧ WAt K H W X ∧ o ∈ names4 ∧ Small (X.S o) ∧ X.ns.length ≤ 14000000 ∧
  ∀ H', WStp K H W X H' W (X.send (X.S o).pend) → Q .non H'
theorem sc_World_tick : FnScope ["self", "name"] ["self", "name"] (defScope sWorld_tick) := ⟨rfl, rfl, rfl, by decide +kernel, rfl, by decide +kernel, by decide +kernel⟩
abbrev Ok_World_tick (P : Program) (w : World) (K : PySem.W.Frag) (mg : Str → Option Value) (base : Heap) : Prop := Has P w K mg base CX0 3 (fWorld_tick K) ["self", "name"] (spWTick K)
theorem ok_World_tick {P : Program} {w : World} {K : PySem.W.Frag} {mg : Str → Option Value} {base : Heap} (T : Txt K mg) (h_World_send : Ok_World_send P w K mg base) (h_Office_pending : Ok_Office_pending P w K mg base) (h_World_office : Ok_World_office P w K mg base) : Ok_World_tick P w K mg base := by
  obtain ⟨fd, F⟩ := T.dWorld_tick
  obtain ⟨fd_World_send, G_World_send, b_World_send⟩ := h_World_send
  obtain ⟨fd_Office_pending, G_Office_pending, b_Office_pending⟩ := h_Office_pending
  obtain ⟨fd_World_office, G_World_office, b_World_office⟩ := h_World_office
  refine ⟨fd, FunD.ok (CX := CX0) F sc_World_tick (fun vs H Q E h => ?_) (fun cdv A outer s H vs Q E hr h => ?_), FunD.bindsN F fun _ _ _ _ _ _ us hl => match us, hl with | [_, _], _ => rfl⟩
  · obtain ⟨W, X, o, rfl, _⟩ := h
    rfl
  · have hu := hu_of hr
    refine ⟨_, PSs.nox (pss_one (ps_expr (pe_meth (pv 0) T.cl_World T.m_World_send G_World_send (hr.mono (by decide)) b_World_send .nil pass0 (pa_cons (pe_meth0 (pe_meth (pv 0) T.cl_World T.m_World_office G_World_office (hr.mono (by decide)) b_World_office .nil pass0 (pa_cons (pv 1) pa_nil)) T.cl_Office T.m_Office_pending G_Office_pending (hr.mono (by decide)) b_Office_pending .nil pass0) pa_nil)))), ?_⟩
    obtain ⟨W, X, o, rfl, A1, ho, sm, hb, k⟩ := h
    have O := A1.off o ho
    obtain ⟨d1, hof⟩ := O.of
    obtain ⟨dw, hw⟩ := A1.w
    refine ⟨_, rfl, W.wa, dw, _, rfl, hw, ln_World_send _ _, ?_⟩
    refine ⟨_, rfl, W.wa, dw, _, rfl, hw, ln_World_office _ _, _, rfl, W, X, o, rfl, A1, ho, _, d1, _, rfl, hof, ln_Office_pending _ _ _, W.Ls o, X.S o, rfl, O, by have := sm.es; omega, sm.wf, fun z H' ys s1 hz hy tp => ?_⟩
    have pl := pend_len (X.S o)
    have es := sm.es
    have st1 := WStp.same A1 s1
    exact ⟨W, X, z, ys, (X.S o).pend, rfl, st1.at_, hy, tp, A1.none hz, by omega, fun H2 s2 => k H2 (st1.trans s2)⟩
def spWWaits (K : PySem.W.Frag) : Sp := fun vs H Q _ => ∃ (W : WLay) (X : WS), vs = [.ref W.wa] ∧ WAt K H W X ∧ (∀ o ∈ names4, Small (X.S o)) ∧
  ∀ H', Same H H' → Q (.bl (names4.any fun o => !(X.S o).pend.isEmpty)) H'
theorem sc_World_waits : FnScope ["self", "name"] ["self"] (defScope sWorld_waits) := ⟨rfl, rfl, rfl, by decide +kernel, rfl, by decide +kernel, by decide +kernel⟩
abbrev Ok_World_waits (P : Program) (w : World) (K : PySem.W.Frag) (mg : Str → Option Value) (base : Heap) : Prop := Has P w K mg base CX0 3 (fWorld_waits K) ["self"] (spWWaits K)
theorem ok_World_waits {P : Program} {w : World} {K : PySem.W.Frag} {mg : Str → Option Value} {base : Heap} (T : Txt K mg) (h_World_names : Ok_World_names P w K mg base) (h_Office_pending : Ok_Office_pending P w K mg base) (h_World_office : Ok_World_office P w K mg base) : Ok_World_waits P w K mg base := by
  obtain ⟨fd, F⟩ := T.dWorld_waits
  obtain ⟨fd_World_names, G_World_names, b_World_names⟩ := h_World_names
  obtain ⟨fd_Office_pending, G_Office_pending, b_Office_pending⟩ := h_Office_pending
  obtain ⟨fd_World_office, G_World_office, b_World_office⟩ := h_World_office
  refine ⟨fd, FunD.ok (CX := CX0) F sc_World_waits (fun vs H Q E h => ?_) (fun cdv A outer s H vs Q E hr h => ?_), FunD.bindsN F fun _ _ _ _ _ _ us hl => match us, hl with | [_], _ => rfl⟩
  · obtain ⟨W, X, rfl, _⟩ := h
    rfl
  · have hu := hu_of hr
    refine ⟨_, PSs.nox (pss_cons (ps_for PassesOwn.never rfl (pi_list (pe_meth0 (pv 0) T.cl_World T.m_World_names G_World_names (hr.mono (by decide)) b_World_names .nil pass0)) (pg_name (i := 1) sc_World_waits.nd rfl (Or.inl rfl)) (pss_one (ps_if (pt_truth (pe_meth0 (pe_meth (pv 0) T.cl_World T.m_World_office G_World_office (hr.mono (by decide)) b_World_office .nil pass0 (pa_cons (pv 1) pa_nil)) T.cl_Office T.m_Office_pending G_Office_pending (hr.mono (by decide)) b_Office_pending .nil pass0) (by intro _; rfl)) (pss_one (ps_ret pe_bl)) pss_nil)))
      (pss_one (ps_ret pe_bl))), ?_⟩
    obtain ⟨W, X, rfl, A1, sm, k⟩ := h
    obtain ⟨dw, hw⟩ := A1.w
    refine ⟨_, rfl, W.wa, dw, _, rfl, hw, ln_World_names _ _, W, X, rfl, A1, fun r hr => ?_⟩
    have s1 := Same.upd (H := H) (o := HO.lst (names4.map V.str)) hr
    have hr1 := upd_same (H := H) (a := r) (o := HO.lst (names4.map V.str))
    generalize hH1 : upd H r (.lst (names4.map V.str)) = H1 at s1 hr1 ⊢
    refine ⟨r, rfl, ⟨_, SqL.of hr1⟩, for_list (K := K) (a := r) (xs := names4.map V.str)
      (fun i σ H' => ∃ v1, σ = [some (.ref W.wa), v1] ∧ Same H1 H' ∧ ∀ o ∈ names4.take i, (X.S o).pend = []) ⟨_, rfl, Same.rfl', fun o m => by cases m⟩ ?_ ?_ ?_⟩
    · rintro i σ H' _ ⟨v1, rfl, sm2, _⟩
      exact SqL.of (sm2 _ _ hr1)
    · rintro i x σ H' hx ⟨v1, rfl, sm2, hyp⟩
      rw [List.getElem?_map] at hx
      obtain ⟨o, ho1, rfl⟩ := Option.map_eq_some_iff.mp hx
      have ho := List.mem_of_getElem? ho1
      have A2 := A1.same (Same.tr s1 sm2)
      obtain ⟨d2, hw2⟩ := A2.w
      obtain ⟨d1, hof⟩ := (A2.off o ho).of
      refine ⟨_, rfl, W.wa, d2, _, rfl, hw2, ln_World_office _ _, _, rfl, W, X, o, rfl, A2, ho, _, d1, _, rfl, hof, ln_Office_pending _ _ _, W.Ls o, X.S o, rfl, A2.off o ho, by have := (sm o ho).es; omega, (sm o ho).wf, fun z H3 ys s3 hz hy tp => ?_⟩
      have el := tp.len
      rw [List.length_map] at el
      refine ⟨_, .inl ⟨_, SqL.of hy, rfl⟩, ?_⟩
      have s4 := Same.tr (Same.tr s1 sm2) s3
      cases c : (X.S o).pend with
      | nil =>
        rw [c] at el
        have ey : ys = [] := List.length_eq_zero_iff.mp el
        subst ey
        refine ifF rfl ⟨_, rfl, Same.tr sm2 s3, fun p mp => ?_⟩
        rw [take_snoc ho1] at mp
        rcases List.mem_append.mp mp with q | q
        · exact hyp p q
        · rw [List.mem_singleton.mp q]
          exact c
      | cons a b =>
        rw [c] at el
        obtain ⟨y, r2, ey⟩ : ∃ y r2, ys = y :: r2 := by
          cases ys with
          | nil => cases el
          | cons y r2 => exact ⟨y, r2, rfl⟩
        subst ey
        refine ifT rfl ?_
        have e1 : (names4.any fun o => !(X.S o).pend.isEmpty) = true := by
          rw [List.any_eq_true]
          exact ⟨o, ho, by rw [c]; rfl⟩
        have kk := k H3 s4
        rw [e1] at kk
        exact kk
    · rintro σ H' ⟨v1, rfl, sm2, hyp⟩
      have e1 : (names4.any fun o => !(X.S o).pend.isEmpty) = false := by
        rw [List.any_eq_false]
        intro o ho
        rw [List.length_map, List.take_length] at hyp
        rw [hyp o ho]
        decide
      have kk := k H' (Same.tr s1 sm2)
      rw [e1] at kk
      exact kk
end LH
namespace LH
open PySem PySem.Spec PyProof.Rows L2
/-! ### a letter is delivered -/
def WS.drop (X : WS) (i : Nat) : WS := { X with ns := X.ns.eraseIdx i }
theorem Tups.erase {H : Hp} : ∀ {vs : List V} {rs : List (List V)} (i : Nat), Tups H vs rs → Tups H (vs.eraseIdx i) (rs.eraseIdx i)
  | [], [], i, _ => by
    rw [List.eraseIdx_nil, List.eraseIdx_nil]
    trivial
  | v :: vs, r :: rs, 0, h => h.2
  | v :: vs, r :: rs, i + 1, h => ⟨h.1, Tups.erase (vs := vs) (rs := rs) i h.2⟩
  | [], _ :: _, _, h => False.elim h
  | _ :: _, [], _, h => False.elim h
theorem map_erase {α β : Type} (f : α → β) : ∀ (l : List α) (i : Nat), (l.map f).eraseIdx i = (l.eraseIdx i).map f
  | [], i => by rw [List.map_nil, List.eraseIdx_nil, List.eraseIdx_nil]; rfl
  | x :: r, 0 => rfl
  | x :: r, i + 1 => by
    rw [List.map_cons, List.eraseIdx_cons_succ, List.eraseIdx_cons_succ, List.map_cons, map_erase f r i]
theorem Tups.at {H : Hp} {vs : List V} {ls : List Ltr} (h : Tups H vs (ls.map Ltr.enc)) {i : Nat} {l : Ltr} (hl : ls[i]? = some l) : ∃ a, vs[i]? = some (.ref a) ∧ H a = some (.tup l.enc) := by
  have hi := (List.getElem?_eq_some_iff.mp hl).1
  have e := h.len
  rw [List.length_map] at e
  have hv : vs[i]? = some vs[i] := List.getElem?_eq_getElem (by omega)
  obtain ⟨a, r, g1, g2, g3⟩ := h.get hv
  rw [List.getElem?_map, hl] at g1
  cases g1
  exact ⟨a, by rw [hv, g2], g3⟩
theorem ans_len {S S' : OSt} {l : Ltr} (sm : Small S) (hl : LOk l) (nt : Noted S (lineOf l) S') : (ansOf S S' l).length ≤ 1800001 := by
  cases l with
  | deed => show 1 ≤ _; decide
  | receipt => show 0 ≤ _; decide
  | notice s r t =>
    have := fur_len (S := S) (noted_ntc sm (hl.str (x := t) (by simp [Ltr.enc])) nt).2
    show (fur S S').length + 1 ≤ _
    omega
  | noted => show 0 ≤ _; decide
  | claim s r t q =>
    unfold ansOf
    simp only
    split <;> simp
  | paid => show 0 ≤ _; decide
/-- what the net's take leaves -/
theorem wst_take {K : PySem.W.Frag} {H H' : Hp} {W : WLay} {X : WS} (h : WAt K H W X) {i : Nat} {ys : List V} {l' : Addr} (tp : Tups H ys (X.ns.map Ltr.enc)) (k : ∀ b o, H b = some o → b ≠ W.nt → H' b = some o) (hn : H l' = none) (N : NetAt K H' W.nt l' (ys.eraseIdx i)) (gr : ∀ b, H b ≠ none → H' b ≠ none) :
    WStp K H W X H' { W with nl := l' } (X.drop i) := by
  obtain ⟨dx, h1, h2⟩ := N
  obtain ⟨ys0, ⟨dn, qn, ql⟩, _⟩ := h.net
  have kt : ∀ a r, H a = some (.tup r) → H' a = some (.tup r) := fun a r e => k a _ e (ne_of e qn (by intro z; cases z))
  refine wst_net h (.inr hn) h1 h2 ?_ (fun b u e n1 _ => k b u e n1) gr kt
  rw [← map_erase]
  exact (tp.erase i).mono kt
theorem drop_S (X : WS) (i : Nat) (o : Str) : (X.drop i).S o = X.S o := rfl
def spWDeliver (K : PySem.W.Frag) : Sp := fun vs H Q E => ∃ (W : WLay) (X : WS) (i : Nat), vs = [.ref W.wa, .int i] ∧ WAt K H W X ∧ i < 2 ^ 40 ∧ X.ns.length ≤ 14000000 ∧ (∀ l ∈ X.ns, LOk l ∧ l.rcv ∈ names4) ∧ (∀ o ∈ names4, Small (X.S o)) ∧ (X.ns.length ≤ i → Errs K H E) ∧
  (∀ l, X.ns[i]? = some l → ∀ H' W' S' v, Noted (X.S l.rcv) (lineOf l) S' → WStp K H W X H' W' (((X.drop i).put l.rcv S').send (ansOf (X.S l.rcv) S' l)) → Q v H')
theorem sc_World_deliver : FnScope ["self", "place", "letter"] ["self", "place"] (defScope sWorld_deliver) := ⟨rfl, rfl, rfl, by decide +kernel, rfl, by decide +kernel, by decide +kernel⟩
abbrev Ok_World_deliver (P : Program) (w : World) (K : PySem.W.Frag) (mg : Str → Option Value) (base : Heap) : Prop := Has P w K mg base (L2.CX P w) 10 (fWorld_deliver K) ["self", "place"] (spWDeliver K)
theorem ok_World_deliver {P : Program} {w : World} {K : PySem.W.Frag} {mg : Str → Option Value} {base : Heap} (T : Txt K mg) (h_Net_take : Ok_Net_take P w K mg base) (h_World_send : Ok_World_send P w K mg base) (h_Office_receive : Ok_Office_receive P w K mg base) : Ok_World_deliver P w K mg base := by
  obtain ⟨fd, F⟩ := T.dWorld_deliver
  obtain ⟨fd_Net_take, G_Net_take, b_Net_take⟩ := h_Net_take
  obtain ⟨fd_World_send, G_World_send, b_World_send⟩ := h_World_send
  obtain ⟨fd_Office_receive, G_Office_receive, b_Office_receive⟩ := h_Office_receive
  refine ⟨fd, FunD.ok (CX := (L2.CX P w)) F sc_World_deliver (fun vs H Q E h => ?_) (fun cdv A outer s H vs Q E hr h => ?_), FunD.bindsN F fun _ _ _ _ _ _ us hl => match us, hl with | [_, _], _ => rfl⟩
  · obtain ⟨W, X, i, rfl, _⟩ := h
    rfl
  · have hu := hu_of hr
    refine ⟨_, (pss_cons (ps_set (i := 2) sc_World_deliver.nd rfl (Or.inl rfl) (pe_meth (pe_fld (pv 0) rfl) T.cl_Net T.m_Net_take G_Net_take (hr.mono (by decide)) b_Net_take .nil (passes_call (takes_of rfl rfl rfl rfl) (fun _ _ _ _ z => z)) (pa_cons (pv 1) pa_nil)))
      (pss_cons (ps_expr (pe_meth (pv 0) T.cl_World T.m_World_send G_World_send (hr.mono (by decide)) b_World_send .nil pass0 (pa_cons (pe_meth (pe_dget hu (pe_fld (pv 0) rfl) (pe_ix ix_tup (pv 2) pe_int (fun _ _ => rfl)) (fun _ _ => rfl)) T.cl_Office T.m_Office_receive G_Office_receive (hr.mono (by decide)) b_Office_receive .nil pass0 (pa_cons (pv 2) pa_nil)) pa_nil)))
      (pss_one (ps_ret (pv 2))))), ?_⟩
    obtain ⟨W, X, i, rfl, A1, hi, hb, hok, sm, kE, k⟩ := h
    obtain ⟨dw, hw⟩ := A1.w
    obtain ⟨ys, N, tp⟩ := A1.net
    obtain ⟨dn, hn1, hn2⟩ := id N
    have el := tp.len
    rw [List.length_map] at el
    refine ⟨_, rfl, rd_World_net T hw ⟨W.nt, dn, _, rfl, hn1, ln_Net_take _, _, rfl, W.nt, W.nl, ys, i, rfl, N, hi, line16 (by omega), fun z H' s => kE (by omega) _ _ (.inr (.inr (.inr (.inr (.inr (.inr rfl)))))) s, fun v hv H1 l' kp hl' N' gr => ?_⟩⟩
    obtain ⟨l, hl⟩ : ∃ l, X.ns[i]? = some l := ⟨X.ns[i]'(by have := (List.getElem?_eq_some_iff.mp hv).1; omega), List.getElem?_eq_getElem _⟩
    obtain ⟨a, ha1, ha⟩ := tp.at hl
    rw [hv] at ha1
    cases ha1
    obtain ⟨lok, hr4⟩ := hok l (List.mem_of_getElem? hl)
    have st1 := wst_take A1 tp kp hl' N' gr
    have ha2 := st1.tup A1 ha
    have A2 := st1.at_
    obtain ⟨d2, hw2⟩ := A2.w
    have O := A2.off l.rcv hr4
    have nm := A2.nm l.rcv hr4
    obtain ⟨d3, hof⟩ := O.of
    have en2 : atI l.enc 2 = some (V.str l.rcv) := by cases l <;> rfl
    refine ⟨_, rfl, W.wa, d2, _, rfl, hw2, ln_World_send _ _, ?_⟩
    refine ⟨_, rfl, rd_World_offices T hw2 ⟨_, rfl, ixT T ha2 (.str l.rcv) (hv := en2) ⟨W.od, _, rfl, od_get A2 hr4, ?_⟩⟩⟩
    refine ⟨_, d3, _, rfl, hof, ln_Office_receive _ _ _, _, rfl, _, X.S l.rcv, a, l, rfl, O, sm _ hr4, ha2, lok, ?_, trivial, fun H2 L2 S2 z zs nt st hz nf hy tz => ?_⟩
    · exact nm.symm
    have st2 := wst_off A2 hr4 st
    have al := ans_len (sm _ hr4) lok nt
    have dl : (X.drop i).ns.length ≤ 14000000 := by
      show (X.ns.eraseIdx i).length ≤ _
      have := List.length_eraseIdx_le X.ns i
      omega
    refine ⟨({ W with nl := l' } : WLay).put l.rcv L2, (X.drop i).put l.rcv S2, z, zs, ansOf (X.S l.rcv) S2 l, rfl, st2.at_, hy, tz, wfresh A2 hz nf, by show (X.drop i).ns.length + _ ≤ _; omega, fun H3 s3 => ?_⟩
    refine ⟨_, rfl, ?_⟩
    exact k l hl H3 _ S2 _ nt ((st1.trans st2).trans s3)
end LH
namespace LH
open PySem PySem.Spec PyProof.Rows L2
/-! ### a new world -/
def kvL (W : WLay) (l : List Str) : List (Key × V) := l.map fun o => (Sum.inr o, V.ref (W.Ls o).of)
structure PAt (K : PySem.W.Frag) (H : Hp) (W : WLay) (l : List Str) : Prop where
  w : ∃ dx, H W.wa = some (.ins (cWorld K) dx (wldF W.nt W.od))
  net : NetAt K H W.nt W.nl []
  od : H W.od = some (.dK (kvL W l))
  off : ∀ o ∈ l, OffAt K H (W.Ls o) (newOff o)
  sep : ∀ o ∈ l, ∀ p ∈ l, o ≠ p → ∀ b, Foot (W.Ls o) (newOff o) b → ¬ Foot (W.Ls p) (newOff p) b
  out : ∀ o ∈ l, ∀ b, Foot (W.Ls o) (newOff o) b → b ≠ W.wa ∧ b ≠ W.nt ∧ b ≠ W.nl ∧ b ≠ W.od
def PF (W : WLay) (l : List Str) (b : Addr) : Prop := b = W.wa ∨ b = W.nt ∨ b = W.nl ∨ b = W.od ∨ ∃ o ∈ l, Foot (W.Ls o) (newOff o) b
theorem PAt.same {K : PySem.W.Frag} {H H' : Hp} {W : WLay} {l : List Str} (h : PAt K H W l) (s : Same H H') : PAt K H' W l :=
  ⟨h.w.imp fun _ q => s _ _ q, h.net.imp fun _ q => ⟨s _ _ q.1, s _ _ q.2⟩, s _ _ h.od, fun o ho => (h.off o ho).same s, h.sep, h.out⟩
theorem PAt.foot {K : PySem.W.Frag} {H : Hp} {W : WLay} {l : List Str} (h : PAt K H W l) {b : Addr} (f : PF W l b) : H b ≠ none := by
  rcases f with rfl | rfl | rfl | rfl | ⟨o, ho, f⟩
  · obtain ⟨dx, q⟩ := h.w
    rw [q]
    intro w
    cases w
  · obtain ⟨dx, q, _⟩ := h.net
    rw [q]
    intro w
    cases w
  · obtain ⟨dx, _, q⟩ := h.net
    rw [q]
    intro w
    cases w
  · rw [h.od]
    intro w
    cases w
  · obtain ⟨u, q, _⟩ := (h.off o ho).foot f
    rw [q]
    intro w
    cases w
theorem pat_add {K : PySem.W.Frag} {H H' : Hp} {W : WLay} {l : List Str} (h : PAt K H W l) {o : Str} (ho : o ∉ l) {p dx : Addr} {L : Lay} (hp : H p = none) (hdx : H dx = none) (O : OffAt K H' L (newOff o)) (eo : L.of = p)
    (fr : Frm (upd (upd H dx (.own p)) p (.ins (cOffice K) dx [])) (fun b => b = p) H' (Foot L (newOff o))) :
    PAt K (upd H' W.od (.dK (putK (kvL W l) (Sum.inr o) (.ref p)))) (W.put o L) (l ++ [o]) ∧ Frm H (PF W l) (upd H' W.od (.dK (putK (kvL W l) (Sum.inr o) (.ref p)))) (PF (W.put o L) (l ++ [o])) := by
  have kp : ∀ b u, H b = some u → H' b = some u := fun b u e => by
    have n1 : b ≠ p := ne_of_none e hp
    have n2 : b ≠ dx := ne_of_none e hdx
    refine fr.keep b u ?_ n1
    rw [upd_ne n1, upd_ne n2]
    exact e
  have newf : ∀ b, Foot L (newOff o) b → H b = none := fun b f => by
    rcases fr.new b f with q | q
    · rw [q]
      exact hp
    · cases e : H b with
      | none => rfl
      | some u =>
        rw [upd_ne (ne_of_none e hp), upd_ne (ne_of_none e hdx), e] at q
        cases q
  have gr : ∀ b, H b ≠ none → H' b ≠ none := fun b n => by
    cases e : H b with
    | none => exact absurd e n
    | some u =>
      rw [kp b u e]
      intro w
      cases w
  have nold : ∀ {b}, PF W l b → ¬ Foot L (newOff o) b := fun f g => h.foot f (newf _ g)
  have fod : PF W l W.od := .inr (.inr (.inr (.inl rfl)))
  have neo : ∀ {r : Str}, r ∈ l → r ≠ o := fun m e => ho (by rw [← e]; exact m)
  have hod := h.od
  have up : ∀ {b u}, H b = some u → b ≠ W.od → (upd H' W.od (.dK (putK (kvL W l) (Sum.inr o) (.ref p)))) b = some u := fun e n => (upd_ne n).trans (kp _ _ e)
  have nmem : valV (kvL W l) (Sum.inr o : Key) = none := by
    have : ∀ l : List Str, o ∉ l → valV (kvL W l) (Sum.inr o : Key) = none := by
      intro l
      induction l with
      | nil => intro _; rfl
      | cons x r ih =>
        intro m
        have e : kvL W (x :: r) = ((Sum.inr x : Key), V.ref (W.Ls x).of) :: kvL W r := rfl
        rw [e, valV_neg (p := ((Sum.inr x : Key), V.ref (W.Ls x).of)) (fun z => m (by rw [← Sum.inr.inj z]; exact List.mem_cons_self))]
        exact ih fun q => m (List.mem_cons_of_mem _ q)
    exact this l ho
  refine ⟨⟨?_, ?_, ?_, fun r hr => ?_, fun r hr q hq ne b f g => ?_, fun r hr b f => ?_⟩, ⟨fun b u e n => up e fun z => n (by rw [z]; exact fod), fun b f => ?_, fun b n => ?_⟩⟩
  · obtain ⟨dw, q⟩ := h.w
    exact ⟨dw, up q (ne_of q hod (by intro z; cases z))⟩
  · obtain ⟨dn, q1, q2⟩ := h.net
    exact ⟨dn, up q1 (ne_of q1 hod (by intro z; cases z)), up q2 (ne_of q2 hod (by intro z; cases z))⟩
  · refine upd_same.trans ?_
    rw [putK_new _ nmem]
    have e1 : kvL (W.put o L) (l ++ [o]) = kvL W l ++ [((Sum.inr o : Key), V.ref p)] := by
      unfold kvL
      rw [List.map_append]
      congr 1
      · refine List.map_congr_left fun r hr => ?_
        rw [put_L' _ _ (neo hr)]
      · rw [List.map_cons, List.map_nil, put_L, eo]
    rw [e1]
  · rcases List.mem_append.mp hr with m | m
    · rw [put_L' _ _ (neo m)]
      refine (h.off r m).keep (fun b f => ?_) (fun a rr e => up e (ne_of e hod (by intro z; cases z)))
      obtain ⟨u, e, _⟩ := (h.off r m).foot f
      rw [e]
      exact up e (h.out r m b f).2.2.2
    · rw [List.mem_singleton.mp m, put_L]
      refine O.keep (fun b f => upd_ne fun z => ?_) (fun a rr e => (upd_ne (fun z => ?_)).trans e)
      · rw [z] at f
        exact nold fod f
      · rw [z, kp _ _ hod] at e
        cases e
  · rcases List.mem_append.mp hr with m | m <;> rcases List.mem_append.mp hq with m2 | m2
    · rw [put_L' _ _ (neo m)] at f
      rw [put_L' _ _ (neo m2)] at g
      exact h.sep r m q m2 ne b f g
    · rw [put_L' _ _ (neo m)] at f
      rw [List.mem_singleton.mp m2, put_L] at g
      exact nold (.inr (.inr (.inr (.inr ⟨r, m, f⟩)))) g
    · rw [List.mem_singleton.mp m, put_L] at f
      rw [put_L' _ _ (neo m2)] at g
      exact nold (.inr (.inr (.inr (.inr ⟨q, m2, g⟩)))) f
    · exact ne ((List.mem_singleton.mp m).trans (List.mem_singleton.mp m2).symm)
  · rcases List.mem_append.mp hr with m | m
    · rw [put_L' _ _ (neo m)] at f
      exact h.out r m b f
    · rw [List.mem_singleton.mp m, put_L] at f
      exact ⟨fun e => nold (.inl e) f, fun e => nold (.inr (.inl e)) f, fun e => nold (.inr (.inr (.inl e))) f, fun e => nold (.inr (.inr (.inr (.inl e)))) f⟩
  · rcases f with f | f | f | f | ⟨r, hr, f⟩
    · exact .inl (.inl f)
    · exact .inl (.inr (.inl f))
    · exact .inl (.inr (.inr (.inl f)))
    · exact .inl (.inr (.inr (.inr (.inl f))))
    · rcases List.mem_append.mp hr with m | m
      · rw [put_L' _ _ (neo m)] at f
        exact .inl (.inr (.inr (.inr (.inr ⟨r, m, f⟩))))
      · rw [List.mem_singleton.mp m, put_L] at f
        exact .inr (newf b f)
  · by_cases z : b = W.od
    · rw [z, upd_same]
      intro w
      cases w
    · rw [upd_ne z]
      exact gr b n
def newW : WS := ⟨newOff, []⟩
def spWInit (K : PySem.W.Frag) : Sp := fun vs H Q _ => ∃ (p dx l : Addr), vs = [.ref p, .ref l] ∧ H p = some (.ins (cWorld K) dx []) ∧ H l = some (.lst (names4.map V.str)) ∧
  ∀ H' W, WAt K H' W newW → W.wa = p → Frm H (fun b => b = p) H' (WFoot W newW) → Q .non H'
theorem sc_World_init : FnScope ["self", "names", "name"] ["self", "names"] (defScope sWorld_init) := ⟨rfl, rfl, rfl, by decide +kernel, rfl, by decide +kernel, by decide +kernel⟩
abbrev Ok_World_init (P : Program) (w : World) (K : PySem.W.Frag) (mg : Str → Option Value) (base : Heap) : Prop := Has P w K mg base CX0 5 (fWorld_init K) ["self", "names"] (spWInit K)
theorem ok_World_init {P : Program} {w : World} {K : PySem.W.Frag} {mg : Str → Option Value} {base : Heap} (T : Txt K mg) (h_Net_init : Ok_Net_init P w K mg base) (h_Office_init : Ok_Office_init P w K mg base) : Ok_World_init P w K mg base := by
  obtain ⟨fd, F⟩ := T.dWorld_init
  obtain ⟨fd_Net_init, G_Net_init, b_Net_init⟩ := h_Net_init
  obtain ⟨fd_Office_init, ds_Office_init, G_Office_init, v_Office_init, b_Office_init⟩ := h_Office_init
  refine ⟨fd, FunD.ok (CX := CX0) F sc_World_init (fun vs H Q E h => ?_) (fun cdv A outer s H vs Q E hr h => ?_), FunD.bindsN F fun _ _ _ _ _ _ us hl => match us, hl with | [_, _], _ => rfl⟩
  · obtain ⟨p, dx, l, rfl, _⟩ := h
    rfl
  · have hu := hu_of hr
    refine ⟨_, PSs.nox (pss_cons (ps_fld (pv 0) (pe_make0 T.mk_Net G_Net_init (hr.mono (by decide)) rfl T.g_Net b_Net_init .nil pass0) rfl)
      (pss_cons (ps_fld (pv 0) pe_dnewK rfl)
      (pss_one (ps_for PassesOwn.never rfl (pi_list (pe_callB cr_sortedS (by rfl) T.b_sorted (by decide +kernel) (pa_cons (pv 1) pa_nil))) (pg_name (i := 2) sc_World_init.nd rfl (Or.inl rfl)) (pss_cons (ps_if (pt_cmp (pc_din hu (pv 2) (pe_fld (pv 0) rfl))) (pss_one ps_never) pss_nil)
      (pss_one (ps_dput hu (pe_fld (pv 0) rfl) (pv 2) (pe_make T.mk_Office G_Office_init (hr.mono (by decide)) rfl T.g_Office b_Office_init v_Office_init pass0 (pa_cons (pv 2) pa_nil)) rfl))))))), ?_⟩
    obtain ⟨p, dx, l, rfl, hp, hl, k⟩ := h
    refine fun x dy hx hdy ne => ⟨x, dy, rfl, upd_same, fun c hc => ⟨rfl, ?_⟩⟩
    have xp : p ≠ x := ne_of_none hp hx
    have yp : p ≠ dy := ne_of_none hp hdy
    have xc : x ≠ c := ne_of_none upd_same hc
    have yc : dy ≠ c := ne_of_none ((upd_ne ne).trans upd_same) hc
    rw [upd_ne xc.symm, upd_ne yc.symm] at hc
    have pc : p ≠ c := ne_of_none hp hc
    -- the heap with the net
    have kp1 : ∀ b u, H b = some u → (upd (upd (upd (upd H dy (.own x)) x (.ins (cNet K) dy [])) c (.lst [])) x (.ins (cNet K) dy (netF c))) b = some u := fun b u e => by
      rw [upd_ne (ne_of_none e hx), upd_ne (ne_of_none e hc), upd_ne (ne_of_none e hx), upd_ne (ne_of_none e hdy)]
      exact e
    have hx1 := upd_same (H := upd (upd (upd H dy (.own x)) x (.ins (cNet K) dy [])) c (.lst [])) (a := x) (o := HO.ins (cNet K) dy (netF c))
    have hc1 : (upd (upd (upd (upd H dy (.own x)) x (.ins (cNet K) dy [])) c (.lst [])) x (.ins (cNet K) dy (netF c))) c = some (.lst []) := (upd_ne xc.symm).trans upd_same
    generalize hH1 : upd (upd (upd (upd H dy (.own x)) x (.ins (cNet K) dy [])) c (.lst [])) x (.ins (cNet K) dy (netF c)) = H1 at kp1 hx1 hc1 ⊢
    refine ⟨_, rfl, p, cWorld K, dx, _, rfl, kp1 _ _ hp, T.cl_World, T.n_World_net, (of_decide_eq_true (by kernel_rfl)), ?_⟩
    refine fun d hd => ?_
    have pd : p ≠ d := ne_of_none upd_same hd
    rw [upd_ne pd.symm] at hd
    have dH : H d = none := by
      cases e : H d with
      | none => rfl
      | some u =>
        rw [kp1 _ _ e] at hd
        cases hd
    have xd : x ≠ d := ne_of_none hx1 hd
    have cd : c ≠ d := ne_of_none hc1 hd
    refine ⟨_, rfl, p, cWorld K, dx, _, rfl, (upd_ne pd).trans upd_same, T.cl_World, T.n_World__offices, (of_decide_eq_true (by kernel_rfl)), ?_⟩
    rw [mk_World]
    have hp4 := upd_same (H := upd (upd H1 p (.ins (cWorld K) dx (putF "net" (.ref x) []))) d (.dK [])) (a := p) (o := HO.ins (cWorld K) dx (wldF x d))
    have hx4 : (upd (upd (upd H1 p (.ins (cWorld K) dx (putF "net" (.ref x) []))) d (.dK [])) p (.ins (cWorld K) dx (wldF x d))) x = some (.ins (cNet K) dy (netF c)) := by
      rw [upd_ne xp.symm, upd_ne xd, upd_ne xp.symm]
      exact hx1
    have hc4 : (upd (upd (upd H1 p (.ins (cWorld K) dx (putF "net" (.ref x) []))) d (.dK [])) p (.ins (cWorld K) dx (wldF x d))) c = some (.lst []) := by
      rw [upd_ne pc.symm, upd_ne cd, upd_ne pc.symm]
      exact hc1
    have hd4 : (upd (upd (upd H1 p (.ins (cWorld K) dx (putF "net" (.ref x) []))) d (.dK [])) p (.ins (cWorld K) dx (wldF x d))) d = some (.dK []) := (upd_ne pd.symm).trans upd_same
    have kp4 : ∀ b u, H b = some u → b ≠ p → (upd (upd (upd H1 p (.ins (cWorld K) dx (putF "net" (.ref x) []))) d (.dK [])) p (.ins (cWorld K) dx (wldF x d))) b = some u := fun b u e n => by
      rw [upd_ne n, upd_ne (ne_of_none e dH), upd_ne n]
      exact kp1 b u e
    generalize hH4 : upd (upd (upd H1 p (.ins (cWorld K) dx (putF "net" (.ref x) []))) d (.dK [])) p (.ins (cWorld K) dx (wldF x d)) = H4 at hp4 hx4 hc4 hd4 kp4 ⊢
    have P0 : PAt K H4 ⟨p, x, c, d, fun _ => ⟨p, p, p, p, p, fun _ => p, fun _ => p⟩⟩ [] := ⟨⟨_, hp4⟩, ⟨_, hx4, hc4⟩, hd4, (fun o m => by cases m), (fun o m => by cases m), (fun o m => by cases m)⟩
    have f0 : Frm H (fun b => b = p) H4 (PF ⟨p, x, c, d, fun _ => ⟨p, p, p, p, p, fun _ => p, fun _ => p⟩⟩ []) := by
      refine ⟨fun b u e n => kp4 b u e n, fun b f => ?_, fun b n => ?_⟩
      · rcases f with f | f | f | f | ⟨o, m, _⟩
        · exact .inl f
        · have f : b = x := f
          rw [f]
          exact .inr hx
        · have f : b = c := f
          rw [f]
          exact .inr hc
        · have f : b = d := f
          rw [f]
          exact .inr dH
        · cases m
      · by_cases z : b = p
        · rw [z, hp4]
          intro w
          cases w
        · cases e : H b with
          | none => exact absurd e n
          | some u =>
            rw [kp4 b u e z]
            intro w
            cases w
    have hl4 := kp4 l _ hl (ne_of hl hp (by intro z; cases z))
    generalize hW0 : (⟨p, x, c, d, fun _ => ⟨p, p, p, p, p, fun _ => p, fun _ => p⟩⟩ : WLay) = W0 at P0 f0
    have ew0 : W0.wa = p := by rw [← hW0]
    refine ⟨_, rfl, l, names4, rfl, SqL.of hl4, by decide +kernel, fun ys r hpm hs hr => ?_⟩
    rw [sorted4 ys hpm hs]
    have s5 := Same.upd (H := H4) (o := HO.lst (names4.map V.str)) hr
    have hr5 := upd_same (H := H4) (a := r) (o := HO.lst (names4.map V.str))
    have nf5 : ¬ PF W0 [] r := fun f => P0.foot f hr
    have P5 := P0.same s5
    have f5 := f0.trans (Frm.same (PF W0 []) s5)
    generalize hH5 : upd H4 r (.lst (names4.map V.str)) = H5 at s5 hr5 P5 f5 ⊢
    refine ⟨r, rfl, ⟨_, SqL.of hr5⟩, for_list (K := K) (a := r) (xs := names4.map V.str)
      (fun i σ H' => ∃ W v2, W.wa = p ∧ σ = [some (.ref p), some (.ref l), v2] ∧ PAt K H' W (names4.take i) ∧ Frm H5 (PF W0 []) H' (PF W (names4.take i))) ⟨W0, _, ew0, rfl, P5, Frm.refl _ _⟩ ?_ ?_ ?_⟩
    · rintro i σ H' _ ⟨W, v2, ew, rfl, Pi, fi⟩
      exact SqL.of (fi.keep r _ hr5 nf5)
    · rintro i v σ H' hv ⟨W, v2, ew, rfl, Pi, fi⟩
      rw [List.getElem?_map] at hv
      obtain ⟨o, ho1, rfl⟩ := Option.map_eq_some_iff.mp hv
      have tk := take_snoc ho1
      have hm : o ∈ names4 := List.mem_of_getElem? ho1
      have hno : o ∉ names4.take i := by
        have nd : names4.Nodup := by decide +kernel
        have h2 : (names4.take (i + 1)).Nodup := nd.sublist (List.take_sublist _ _)
        rw [tk] at h2
        intro m
        exact (List.nodup_append.mp h2).2.2 o m o (List.mem_singleton.mpr rfl) rfl
      obtain ⟨dw, hw⟩ := Pi.w
      rw [ew] at hw
      have nm : valV (kvL W (names4.take i)) (Sum.inr o : Key) = none := by
        have : ∀ l : List Str, o ∉ l → valV (kvL W l) (Sum.inr o : Key) = none := by
          intro l
          induction l with
          | nil => intro _; rfl
          | cons x r ih =>
            intro m
            have e : kvL W (x :: r) = ((Sum.inr x : Key), V.ref (W.Ls x).of) :: kvL W r := rfl
            rw [e, valV_neg (p := ((Sum.inr x : Key), V.ref (W.Ls x).of)) (fun z => m (by rw [← Sum.inr.inj z]; exact List.mem_cons_self))]
            exact ih fun q => m (List.mem_cons_of_mem _ q)
        exact this _ hno
      refine ⟨_, rfl, _, rfl, rd_World_offices T hw ⟨W.od, _, rfl, DGet.k (k := Sum.inr o) Pi.od, ?_⟩⟩
      rw [nm]
      refine ⟨_, rfl, ifF rfl ?_⟩
      refine ⟨_, rfl, fun q dq hq hdq nq => ⟨q, dq, o, rfl, upd_same, hm, fun L H2 O2 eo fr2 => ⟨rfl, ?_⟩⟩⟩
      have kp2 : ∀ b u, H' b = some u → H2 b = some u := fun b u e => by
        refine fr2.keep b u ?_ (ne_of_none e hq)
        rw [upd_ne (ne_of_none e hq), upd_ne (ne_of_none e hdq)]
        exact e
      obtain ⟨Pn, fn⟩ := pat_add Pi hno hq hdq O2 eo fr2
      refine ⟨_, rfl, rd_World_offices T (kp2 _ _ hw) ⟨_, rfl, W.od, _, rfl, DPut.k (k := Sum.inr o) (kp2 _ _ Pi.od) ?_, ?_⟩⟩
      · unfold kvL
        rw [List.length_map, List.length_take]
        have : names4.length = 4 := rfl
        exact line7 (by omega)
      · refine ⟨W.put o L, _, ew, rfl, ?_, ?_⟩
        · rw [tk]
          exact Pn
        · rw [tk]
          exact fi.trans fn
    · rintro σ H' ⟨W, v2, ew, rfl, Pi, fi⟩
      rw [List.length_map, List.take_length] at Pi fi
      refine k H' W ⟨Pi.w, ⟨[], Pi.net, trivial⟩, Pi.od, Pi.off, fun o ho => rfl, Pi.sep, Pi.out⟩ ew (f5.trans fi)
end LH
namespace LH
open PySem PySem.Spec PyProof.Rows L2
/-! ### until nothing waits -/
def allpend (X : WS) : List Ltr := names4.flatMap fun o => (X.S o).pend
def dlv (Z : WS) (i : Nat) (l : Ltr) (S' : OSt) : WS := ((Z.drop i).put l.rcv S').send (ansOf (Z.S l.rcv) S' l)
structure Sml (X : WS) (n : Nat) : Prop where
  sm : ∀ o ∈ names4, Small (X.S o)
  ok : ∀ l ∈ X.ns, LOk l ∧ l.rcv ∈ names4
  len : X.ns.length ≤ n
/-- what calm leans on: G at the head of a round, J and m while letters are delivered -/
structure CalmOk (G : WS → Prop) (μ : WS → Nat) : Prop where
  sml : ∀ Y, G Y → Sml Y 7000000
  turn : ∀ Y, G Y → (Y.ns ≠ [] ∨ allpend Y ≠ []) → ∃ (J : WS → Prop) (m : WS → Nat), J (Y.send (allpend Y)) ∧ (∀ Z, J Z → Sml Z 14000000) ∧
    (∀ Z l r S', J Z → Z.ns = l :: r → Noted (Z.S l.rcv) (lineOf l) S' → J (dlv Z 0 l S') ∧ m (dlv Z 0 l S') < m Z) ∧ (∀ Z, J Z → Z.ns = [] → G Z ∧ μ Z < μ Y)
theorem allpend_len {X : WS} (h : ∀ o ∈ names4, Small (X.S o)) : ∀ i, ((names4.take i).flatMap fun o => (X.S o).pend).length ≤ 6400000 := by
  intro i
  have k : ∀ o ∈ names4, (X.S o).pend.length ≤ 1600000 := fun o ho => by
    have a := pend_len (X.S o)
    have b := (h o ho).es
    omega
  have g : ∀ l : List Str, (∀ o ∈ l, o ∈ names4) → (l.flatMap fun o => (X.S o).pend).length ≤ l.length * 1600000 := by
    intro l
    induction l with
    | nil => intro _; exact Nat.le_refl _
    | cons o r ih =>
      intro q
      have a := k o (q o List.mem_cons_self)
      have b := ih fun p hp => q p (List.mem_cons_of_mem _ hp)
      rw [List.flatMap_cons, List.length_append, List.length_cons]
      omega
  have b := g (names4.take i) fun o m => List.mem_of_mem_take m
  have c : (names4.take i).length ≤ 4 := by
    rw [List.length_take]
    exact Nat.min_le_right _ _
  omega
theorem any_pend (X : WS) : (names4.any fun o => !(X.S o).pend.isEmpty) = !(allpend X).isEmpty := by
  unfold allpend
  have g : ∀ l : List Str, (l.any fun o => !(X.S o).pend.isEmpty) = !(l.flatMap fun o => (X.S o).pend).isEmpty := by
    intro l
    induction l with
    | nil => rfl
    | cons o r ih =>
      rw [List.any_cons, List.flatMap_cons, ih]
      cases (X.S o).pend <;> simp
  exact g names4
theorem nil_or {α : Type} (l : List α) : l = [] ∨ l ≠ [] := by
  cases l with
  | nil => exact .inl rfl
  | cons x y => exact .inr fun z => by cases z
def spCalm (K : PySem.W.Frag) : Sp := fun vs H Q _ => ∃ (W : WLay) (X : WS) (G : WS → Prop) (μ : WS → Nat), vs = [.ref W.wa] ∧ WAt K H W X ∧ G X ∧ CalmOk G μ ∧
  (∀ H' W' Y n, WStp K H W X H' W' Y → G Y → Y.ns = [] → allpend Y = [] → Q (.int n) H')
theorem sc_World_calm : FnScope ["self", "rounds", "name"] ["self"] (defScope sWorld_calm) := ⟨rfl, rfl, rfl, by decide +kernel, rfl, by decide +kernel, by decide +kernel⟩
abbrev Ok_World_calm (P : Program) (w : World) (K : PySem.W.Frag) (mg : Str → Option Value) (base : Heap) : Prop := Has P w K mg base CX0 11 (fWorld_calm K) ["self"] (spCalm K)
theorem ok_World_calm {P : Program} {w : World} {K : PySem.W.Frag} {mg : Str → Option Value} {base : Heap} (T : Txt K mg) (h_World_waits : Ok_World_waits P w K mg base) (h_Net_letters : Ok_Net_letters P w K mg base) (h_World_names : Ok_World_names P w K mg base) (h_World_tick : Ok_World_tick P w K mg base) (h_World_deliver : Ok_World_deliver P w K mg base) : Ok_World_calm P w K mg base := by
  obtain ⟨fd, F⟩ := T.dWorld_calm
  obtain ⟨fd_World_waits, G_World_waits, b_World_waits⟩ := h_World_waits
  obtain ⟨fd_Net_letters, G_Net_letters, b_Net_letters⟩ := h_Net_letters
  obtain ⟨fd_World_names, G_World_names, b_World_names⟩ := h_World_names
  obtain ⟨fd_World_tick, G_World_tick, b_World_tick⟩ := h_World_tick
  obtain ⟨fd_World_deliver, G_World_deliver, b_World_deliver⟩ := h_World_deliver
  refine ⟨fd, FunD.ok (CX := CX0) F sc_World_calm (fun vs H Q E h => ?_) (fun cdv A outer s H vs Q E hr h => ?_), FunD.bindsN F fun _ _ _ _ _ _ us hl => match us, hl with | [_], _ => rfl⟩
  · obtain ⟨W, X, G, μ, rfl, _⟩ := h
    rfl
  · have hu := hu_of hr
    refine ⟨_, PSs.nox (pss_cons (ps_set (i := 1) sc_World_calm.nd rfl (Or.inl rfl) pe_int)
      (pss_cons (ps_while PassesOwn.never (PW.pt (pw_or (pt_truth (pe_meth0 (pe_fld (pv 0) rfl) T.cl_Net T.m_Net_letters G_Net_letters (hr.mono (by decide)) b_Net_letters .nil pass0) (by intro _; rfl)) (pw_or1 (pt_val (pe_meth0 (pv 0) T.cl_World T.m_World_waits G_World_waits (hr.mono (by decide)) b_World_waits .nil pass0))))) (pss_cons (ps_for PassesOwn.never rfl (pi_list (pe_meth0 (pv 0) T.cl_World T.m_World_names G_World_names (hr.mono (by decide)) b_World_names .nil pass0)) (pg_name (i := 2) sc_World_calm.nd rfl (Or.inl rfl)) (pss_one (ps_expr (pe_meth (pv 0) T.cl_World T.m_World_tick G_World_tick (hr.mono (by decide)) b_World_tick .nil pass0 (pa_cons (pv 2) pa_nil)))))
      (pss_cons (ps_while PassesOwn.never (pt_truth (pe_meth0 (pe_fld (pv 0) rfl) T.cl_Net T.m_Net_letters G_Net_letters (hr.mono (by decide)) b_Net_letters .nil pass0) (by intro _; rfl)) (pss_one (ps_expr (pe_meth (pv 0) T.cl_World T.m_World_deliver G_World_deliver (hr.mono (by decide)) b_World_deliver .nil passL (pa_cons pe_int pa_nil)))))
      (pss_one (ps_set (i := 1) sc_World_calm.nd rfl (Or.inl rfl) (pe_op op_add (pv 1) pe_int))))))
      (pss_one (ps_ret (pv 1))))), ?_⟩
    obtain ⟨W, X, G, μ, rfl, A1, g, ck, k⟩ := h
    refine ⟨fun m σ H' => ∃ (W' : WLay) (Y : WS) (n : Int) (v2 : Option V), σ = [some (.ref W.wa), some (.int n), v2] ∧ WStp K H W X H' W' Y ∧ G Y ∧ m = μ Y, ⟨μ X, W, X, 0, none, rfl, WStp.refl A1, g, rfl⟩, ?_⟩
    rintro m σ H' ⟨W', Y, n, v2, rfl, st, gy, rfl⟩
    have A2 := st.at_
    obtain ⟨dw, hw⟩ := A2.w
    rw [st.wa] at hw
    obtain ⟨ys, N, tp⟩ := A2.net
    obtain ⟨dn, hn1, hn2⟩ := id N
    have yl := tp.len
    rw [List.length_map] at yl
    have sml := ck.sml Y gy
    refine ⟨_, rfl, rd_World_net T hw ⟨W'.nt, dn, _, rfl, hn1, ln_Net_letters _, W'.nt, W'.nl, ys, rfl, N, fun r hr => ?_⟩⟩
    have s1 := Same.upd (H := H') (o := HO.lst ys) hr
    have hr1 := upd_same (H := H') (a := r) (o := HO.lst ys)
    have st1 := st.trans (WStp.same A2 s1)
    generalize hH1 : upd H' r (.lst ys) = H1 at s1 hr1 st1 ⊢
    refine ⟨_, .inl ⟨_, SqL.of hr1, rfl⟩, ?_⟩
    cases ey : Y.ns with
    | cons l rst =>
      have hyp : Y.ns ≠ [] ∨ allpend Y ≠ [] := .inl (by rw [ey]; intro z; cases z)
      have ne : (!ys.isEmpty) = true := by
        cases ys with
        | nil =>
          rw [ey] at yl
          cases yl
        | cons a b => rfl
      rw [ne]
      refine iteT (ifT rfl ?_)
      refine ⟨fun σ' H' => ∃ (W3 : WLay) (Z : WS) (n3 : Int) (v3 : Option V), σ' = [some (.ref W.wa), some (.int n3), v3] ∧ WStp K H W X H' W3 Z ∧ G Z ∧ μ Z < μ Y, (fun σ' H' ⟨W3, Z, n3, v3, a1, a2, a3, a4⟩ => ⟨μ Z, a4, W3, Z, n3, v3, a1, a2, a3, rfl⟩), ?_⟩
      obtain ⟨J, mm, j0, jsm, jdl, jend⟩ := ck.turn Y gy hyp
      have A3 := st1.at_
      obtain ⟨d3, hw3⟩ := A3.w
      rw [st1.wa] at hw3
      refine ⟨_, rfl, W.wa, d3, _, rfl, hw3, ln_World_names _ _, W', Y, by rw [st1.wa]; rfl, A3, fun q hq => ?_⟩
      have s2 := Same.upd (H := H1) (o := HO.lst (names4.map V.str)) hq
      have hq2 := upd_same (H := H1) (a := q) (o := HO.lst (names4.map V.str))
      have nfq : ¬ WFoot W' Y q := A3.none hq
      have st2 := st1.trans (WStp.same A3 s2)
      generalize hH2 : upd H1 q (.lst (names4.map V.str)) = H2 at s2 hq2 st2 ⊢
      refine ⟨q, rfl, ⟨_, SqL.of hq2⟩, for_list (K := K) (a := q) (xs := names4.map V.str)
        (fun i σ H' => ∃ v3, σ = [some (.ref W.wa), some (.int n), v3] ∧ WStp K H2 W' Y H' W' (Y.send ((names4.take i).flatMap fun o => (Y.S o).pend))) ⟨_, rfl, ?_⟩ ?_ ?_ ?_⟩
      · have e0 : Y.send ((names4.take 0).flatMap fun o => (Y.S o).pend) = Y := send_nil Y
        rw [e0]
        exact WStp.refl st2.at_
      · rintro i σ H' _ ⟨v3, rfl, s3⟩
        exact SqL.of (s3.fr.keep q _ hq2 nfq)
      · rintro i x σ H' hx ⟨v3, rfl, s3⟩
        rw [List.getElem?_map] at hx
        obtain ⟨o, ho1, rfl⟩ := Option.map_eq_some_iff.mp hx
        have ho := List.mem_of_getElem? ho1
        have A4 := s3.at_
        obtain ⟨d4, hw4⟩ := A4.w
        rw [st1.wa] at hw4
        have l1 := allpend_len sml.sm i
        have l2 := sml.len
        refine ⟨_, rfl, W.wa, d4, _, rfl, hw4, ln_World_tick _ _, _, rfl, W', _, o, by rw [st1.wa]; rfl, A4, ho, sml.sm o ho, ?_, fun H3 s4 => ⟨_, rfl, ?_⟩⟩
        · show (Y.ns ++ (names4.take i).flatMap fun o => (Y.S o).pend).length ≤ _
          rw [List.length_append]
          omega
        · have e5 : Y.send ((names4.take (i + 1)).flatMap fun o => (Y.S o).pend) = (Y.send ((names4.take i).flatMap fun o => (Y.S o).pend)).send (Y.S o).pend := by
            rw [take_snoc ho1, List.flatMap_append, send_send]
            simp
          rw [e5]
          exact s3.trans s4
      · rintro σ H' ⟨v3, rfl, s3⟩
        rw [List.length_map, List.take_length] at s3
        have st3 := st2.trans s3
        -- letters are delivered
        refine ⟨fun m2 σ' H' => ∃ (W3 : WLay) (Z : WS), σ' = [some (.ref W.wa), some (.int n), v3] ∧ WStp K H W X H' W3 Z ∧ J Z ∧ m2 = mm Z, ⟨_, W', _, rfl, st3, j0, rfl⟩, ?_⟩
        rintro m2 σ' H4 ⟨W3, Z, rfl, st4, jz, rfl⟩
        have A5 := st4.at_
        obtain ⟨d5, hw5⟩ := A5.w
        rw [st4.wa] at hw5
        obtain ⟨zs, N5, tz⟩ := A5.net
        obtain ⟨dn5, hn5, _⟩ := id N5
        have zl := tz.len
        rw [List.length_map] at zl
        have sz := jsm Z jz
        refine ⟨_, rfl, rd_World_net T hw5 ⟨W3.nt, dn5, _, rfl, hn5, ln_Net_letters _, W3.nt, W3.nl, zs, rfl, N5, fun r5 hr5 => ?_⟩⟩
        have s6 := Same.upd (H := H4) (o := HO.lst zs) hr5
        have hr6 := upd_same (H := H4) (a := r5) (o := HO.lst zs)
        have st6 := st4.trans (WStp.same A5 s6)
        generalize hH5 : upd H4 r5 (.lst zs) = H5 at s6 hr6 st6 ⊢
        refine ⟨_, .inl ⟨_, SqL.of hr6, rfl⟩, ?_⟩
        have A6 := st6.at_
        obtain ⟨d6, hw6⟩ := A6.w
        rw [st6.wa] at hw6
        cases ez : Z.ns with
        | nil =>
          have e7 : zs = [] := by
            rw [ez] at zl
            exact List.length_eq_zero_iff.mp zl
          subst e7
          obtain ⟨gz, lt⟩ := jend Z jz ez
          exact ifF rfl ⟨_, rfl, _, _, rfl, rfl, W3, Z, n + 1, v3, rfl, st6, gz, lt⟩
        | cons l rst =>
          obtain ⟨y7, r7, e7⟩ : ∃ y7 r7, zs = y7 :: r7 := by
            cases zs with
            | nil =>
              rw [ez] at zl
              cases zl
            | cons a b => exact ⟨a, b, rfl⟩
          subst e7
          refine ifT rfl ⟨fun σ' H' => ∃ (W4 : WLay) (Z4 : WS), σ' = [some (.ref W.wa), some (.int n), v3] ∧ WStp K H W X H' W4 Z4 ∧ J Z4 ∧ mm Z4 < mm Z, (fun σ' H' ⟨W4, Z4, a1, a2, a3, a4⟩ => ⟨mm Z4, a4, W4, Z4, a1, a2, a3, rfl⟩), ?_⟩
          refine ⟨_, rfl, W.wa, d6, _, rfl, hw6, ln_World_deliver _ _, W3, Z, 0, by rw [st6.wa]; rfl, A6, by decide, sz.len, sz.ok, sz.sm, fun z => ?_, fun l2 hl2 H6 W6 S6 v nt s7 => ?_⟩
          · rw [ez] at z
            exact absurd z (by simp)
          · have el : l2 = l := by
              rw [ez] at hl2
              exact (Option.some.inj hl2).symm
            subst el
            obtain ⟨j7, lt⟩ := jdl Z l2 rst S6 jz ez nt
            exact ⟨W6, _, rfl, st6.trans s7, j7, lt⟩
    | nil =>
      have e7 : ys = [] := by
        rw [ey] at yl
        exact List.length_eq_zero_iff.mp yl
      rw [e7]
      refine iteF ?_
      have A7 := st1.at_
      obtain ⟨d7, hw7⟩ := A7.w
      rw [st1.wa] at hw7
      refine ⟨_, rfl, W.wa, d7, _, rfl, hw7, ln_World_waits _ _, W', Y, by rw [st1.wa]; rfl, A7, sml.sm, fun H8 s8 => ⟨_, rfl, ?_⟩⟩
      rw [any_pend]
      rcases nil_or (allpend Y) with ea | ea
      · rw [ea]
        exact ifF rfl ⟨_, rfl, k H8 W' Y n (st1.trans (WStp.same A7 s8)) gy ey ea⟩
      · have hyp : Y.ns ≠ [] ∨ allpend Y ≠ [] := .inr ea
        have ne : (!(allpend Y).isEmpty) = true := by
          cases c : allpend Y with
          | nil => exact absurd c ea
          | cons a b => rfl
        rw [ne]
        refine ifT rfl ?_
        have st1 := st1.trans (WStp.same A7 s8)
        clear hr1 s1 hw7 d7 A7 hH1
        generalize hH8 : H8 = H1 at st1 s8 ⊢
        refine ⟨fun σ' H' => ∃ (W3 : WLay) (Z : WS) (n3 : Int) (v3 : Option V), σ' = [some (.ref W.wa), some (.int n3), v3] ∧ WStp K H W X H' W3 Z ∧ G Z ∧ μ Z < μ Y, (fun σ' H' ⟨W3, Z, n3, v3, a1, a2, a3, a4⟩ => ⟨μ Z, a4, W3, Z, n3, v3, a1, a2, a3, rfl⟩), ?_⟩
        obtain ⟨J, mm, j0, jsm, jdl, jend⟩ := ck.turn Y gy hyp
        have A3 := st1.at_
        obtain ⟨d3, hw3⟩ := A3.w
        rw [st1.wa] at hw3
        refine ⟨_, rfl, W.wa, d3, _, rfl, hw3, ln_World_names _ _, W', Y, by rw [st1.wa]; rfl, A3, fun q hq => ?_⟩
        have s2 := Same.upd (H := H1) (o := HO.lst (names4.map V.str)) hq
        have hq2 := upd_same (H := H1) (a := q) (o := HO.lst (names4.map V.str))
        have nfq : ¬ WFoot W' Y q := A3.none hq
        have st2 := st1.trans (WStp.same A3 s2)
        generalize hH2 : upd H1 q (.lst (names4.map V.str)) = H2 at s2 hq2 st2 ⊢
        refine ⟨q, rfl, ⟨_, SqL.of hq2⟩, for_list (K := K) (a := q) (xs := names4.map V.str)
          (fun i σ H' => ∃ v3, σ = [some (.ref W.wa), some (.int n), v3] ∧ WStp K H2 W' Y H' W' (Y.send ((names4.take i).flatMap fun o => (Y.S o).pend))) ⟨_, rfl, ?_⟩ ?_ ?_ ?_⟩
        · have e0 : Y.send ((names4.take 0).flatMap fun o => (Y.S o).pend) = Y := send_nil Y
          rw [e0]
          exact WStp.refl st2.at_
        · rintro i σ H' _ ⟨v3, rfl, s3⟩
          exact SqL.of (s3.fr.keep q _ hq2 nfq)
        · rintro i x σ H' hx ⟨v3, rfl, s3⟩
          rw [List.getElem?_map] at hx
          obtain ⟨o, ho1, rfl⟩ := Option.map_eq_some_iff.mp hx
          have ho := List.mem_of_getElem? ho1
          have A4 := s3.at_
          obtain ⟨d4, hw4⟩ := A4.w
          rw [st1.wa] at hw4
          have l1 := allpend_len sml.sm i
          have l2 := sml.len
          refine ⟨_, rfl, W.wa, d4, _, rfl, hw4, ln_World_tick _ _, _, rfl, W', _, o, by rw [st1.wa]; rfl, A4, ho, sml.sm o ho, ?_, fun H3 s4 => ⟨_, rfl, ?_⟩⟩
          · show (Y.ns ++ (names4.take i).flatMap fun o => (Y.S o).pend).length ≤ _
            rw [List.length_append]
            omega
          · have e5 : Y.send ((names4.take (i + 1)).flatMap fun o => (Y.S o).pend) = (Y.send ((names4.take i).flatMap fun o => (Y.S o).pend)).send (Y.S o).pend := by
              rw [take_snoc ho1, List.flatMap_append, send_send]
              simp
            rw [e5]
            exact s3.trans s4
        · rintro σ H' ⟨v3, rfl, s3⟩
          rw [List.length_map, List.take_length] at s3
          have st3 := st2.trans s3
          -- letters are delivered
          refine ⟨fun m2 σ' H' => ∃ (W3 : WLay) (Z : WS), σ' = [some (.ref W.wa), some (.int n), v3] ∧ WStp K H W X H' W3 Z ∧ J Z ∧ m2 = mm Z, ⟨_, W', _, rfl, st3, j0, rfl⟩, ?_⟩
          rintro m2 σ' H4 ⟨W3, Z, rfl, st4, jz, rfl⟩
          have A5 := st4.at_
          obtain ⟨d5, hw5⟩ := A5.w
          rw [st4.wa] at hw5
          obtain ⟨zs, N5, tz⟩ := A5.net
          obtain ⟨dn5, hn5, _⟩ := id N5
          have zl := tz.len
          rw [List.length_map] at zl
          have sz := jsm Z jz
          refine ⟨_, rfl, rd_World_net T hw5 ⟨W3.nt, dn5, _, rfl, hn5, ln_Net_letters _, W3.nt, W3.nl, zs, rfl, N5, fun r5 hr5 => ?_⟩⟩
          have s6 := Same.upd (H := H4) (o := HO.lst zs) hr5
          have hr6 := upd_same (H := H4) (a := r5) (o := HO.lst zs)
          have st6 := st4.trans (WStp.same A5 s6)
          generalize hH5 : upd H4 r5 (.lst zs) = H5 at s6 hr6 st6 ⊢
          refine ⟨_, .inl ⟨_, SqL.of hr6, rfl⟩, ?_⟩
          have A6 := st6.at_
          obtain ⟨d6, hw6⟩ := A6.w
          rw [st6.wa] at hw6
          cases ez : Z.ns with
          | nil =>
            have e7 : zs = [] := by
              rw [ez] at zl
              exact List.length_eq_zero_iff.mp zl
            subst e7
            obtain ⟨gz, lt⟩ := jend Z jz ez
            exact ifF rfl ⟨_, rfl, _, _, rfl, rfl, W3, Z, n + 1, v3, rfl, st6, gz, lt⟩
          | cons l rst =>
            obtain ⟨y7, r7, e7⟩ : ∃ y7 r7, zs = y7 :: r7 := by
              cases zs with
              | nil =>
                rw [ez] at zl
                cases zl
              | cons a b => exact ⟨a, b, rfl⟩
            subst e7
            refine ifT rfl ⟨fun σ' H' => ∃ (W4 : WLay) (Z4 : WS), σ' = [some (.ref W.wa), some (.int n), v3] ∧ WStp K H W X H' W4 Z4 ∧ J Z4 ∧ mm Z4 < mm Z, (fun σ' H' ⟨W4, Z4, a1, a2, a3, a4⟩ => ⟨mm Z4, a4, W4, Z4, a1, a2, a3, rfl⟩), ?_⟩
            refine ⟨_, rfl, W.wa, d6, _, rfl, hw6, ln_World_deliver _ _, W3, Z, 0, by rw [st6.wa]; rfl, A6, by decide, sz.len, sz.ok, sz.sm, fun z => ?_, fun l2 hl2 H6 W6 S6 v nt s7 => ?_⟩
            · rw [ez] at z
              exact absurd z (by simp)
            · have el : l2 = l := by
                rw [ez] at hl2
                exact (Option.some.inj hl2).symm
              subst el
              obtain ⟨j7, lt⟩ := jdl Z l2 rst S6 jz ez nt
              exact ⟨W6, _, rfl, st6.trans s7, j7, lt⟩
end LH
namespace LH
open PySem PySem.Spec PyProof.Rows L2
/-! ### the law's own defs -/
def spLNames : Sp := fun vs H Q _ => vs = [] ∧ ∀ r, H r = none → Q (.ref r) (upd H r (.lst (names4.map V.str)))
theorem sc_law_names : FnScope [] [] (defScope s_law_names) := ⟨rfl, rfl, rfl, by decide +kernel, rfl, by decide +kernel, by decide +kernel⟩
abbrev Ok_law_names (P : Program) (w : World) (K : PySem.W.Frag) (mg : Str → Option Value) (base : Heap) : Prop := Has P w K mg base CX0 1 (f_law_names K) [] (spLNames)
theorem ok_law_names {P : Program} {w : World} {K : PySem.W.Frag} {mg : Str → Option Value} {base : Heap} (T : Txt K mg) : Ok_law_names P w K mg base := by
  obtain ⟨fd, F⟩ := T.d_law_names
  refine ⟨fd, FunD.ok (CX := CX0) F sc_law_names (fun vs H Q E h => ?_) (fun cdv A outer s H vs Q E hr h => ?_), FunD.bindsN F fun _ _ _ _ _ _ us hl => match us, hl with | [], _ => rfl⟩
  · obtain ⟨rfl, _⟩ := h
    rfl
  · have hu := hu_of hr
    refine ⟨_, PSs.nox (pss_one (ps_ret (pe_lst (pa_cons pe_str (pa_cons pe_str (pa_cons pe_str (pa_cons pe_str pa_nil))))))), ?_⟩
    obtain ⟨rfl, k⟩ := h
    exact ⟨line16 (by show 4 ≤ 16000000; decide), fun r hr => k r hr⟩
theorem list_map_get {α : Type} {f : α → V} {l : List α} {i : Nat} {x : V} (h : (l.map f)[i]? = some x) : ∃ a, l[i]? = some a ∧ x = f a := by
  rw [List.getElem?_map] at h
  obtain ⟨a, e, z⟩ := Option.map_eq_some_iff.mp h
  exact ⟨a, e, z.symm⟩
def spHolder (K : PySem.W.Frag) : Sp := fun vs H Q _ => ∃ (W : WLay) (X : WS) (t : Str), vs = [.ref W.wa, .str t] ∧ WAt K H W X ∧ ∀ o ∈ names4, ∀ H', Same H H' → Q (.str o) H'
theorem sc_law_holder : FnScope ["_law_world", "_law_thing", "_law_name", "_law_found"] ["_law_world", "_law_thing"] (defScope s_law_holder) := ⟨rfl, rfl, rfl, by decide +kernel, rfl, by decide +kernel, by decide +kernel⟩
abbrev Ok_law_holder (P : Program) (w : World) (K : PySem.W.Frag) (mg : Str → Option Value) (base : Heap) : Prop := Has P w K mg base CX0 3 (f_law_holder K) ["_law_world", "_law_thing"] (spHolder K)
theorem ok_law_holder {P : Program} {w : World} {K : PySem.W.Frag} {mg : Str → Option Value} {base : Heap} (T : Txt K mg) (h_law_names : Ok_law_names P w K mg base) (h_Office_entry : Ok_Office_entry P w K mg base) (h_World_office : Ok_World_office P w K mg base) : Ok_law_holder P w K mg base := by
  obtain ⟨fd, F⟩ := T.d_law_holder
  obtain ⟨fd_law_names, G_law_names, b_law_names⟩ := h_law_names
  have k_law_names : PySem.W.keepIn K (.ref (f_law_names K)) = true := by
    obtain ⟨_, q⟩ := T.d_law_names
    exact q.kp
  obtain ⟨fd_Office_entry, G_Office_entry, b_Office_entry⟩ := h_Office_entry
  obtain ⟨fd_World_office, G_World_office, b_World_office⟩ := h_World_office
  refine ⟨fd, FunD.ok (CX := CX0) F sc_law_holder (fun vs H Q E h => ?_) (fun cdv A outer s H vs Q E hr h => ?_), FunD.bindsN F fun _ _ _ _ _ _ us hl => match us, hl with | [_, _], _ => rfl⟩
  · obtain ⟨W, X, t, rfl, _⟩ := h
    rfl
  · have hu := hu_of hr
    refine ⟨_, PSs.nox (pss_cons (ps_for PassesOwn.never rfl (pi_list (pe_call0 G_law_names (hr.mono (by decide)) rfl T.g_law_names k_law_names b_law_names .nil pass0)) (pg_name (i := 2) sc_law_holder.nd rfl (Or.inl rfl)) (pss_cons (ps_set (i := 3) sc_law_holder.nd rfl (Or.inl rfl) (pe_meth (pe_meth (pv 0) T.cl_World T.m_World_office G_World_office (hr.mono (by decide)) b_World_office .nil pass0 (pa_cons (pv 2) pa_nil)) T.cl_Office T.m_Office_entry G_Office_entry (hr.mono (by decide)) b_Office_entry .nil pass0 (pa_cons (pv 1) pa_nil)))
      (pss_one (ps_if (PW.pt (pw_and (pt_cmpR op_notN (pv 3) pe_non (nomark _)) (pw_and1 (pt_cmpR op_eq (pe_ix ix_tup (pv 3) pe_int (fun _ _ => rfl)) pe_str (nomark _))))) (pss_one (ps_ret (pv 2))) pss_nil))))
      (pss_one (ps_ret pe_str))), ?_⟩
    obtain ⟨W, X, t, rfl, A1, k⟩ := h
    refine ⟨rfl, fun r hr => ?_⟩
    have s1 := Same.upd (H := H) (o := HO.lst (names4.map V.str)) hr
    have hr1 := upd_same (H := H) (a := r) (o := HO.lst (names4.map V.str))
    generalize hH1 : upd H r (.lst (names4.map V.str)) = H1 at s1 hr1 ⊢
    refine ⟨r, rfl, ⟨_, SqL.of hr1⟩, for_list (K := K) (a := r) (xs := names4.map V.str)
      (fun i σ H' => ∃ v2 v3, σ = [some (.ref W.wa), some (.str t), v2, v3] ∧ Same H1 H') ⟨_, _, rfl, Same.rfl'⟩ ?_ ?_ ?_⟩
    · rintro i σ H' _ ⟨v2, v3, rfl, s2⟩
      exact SqL.of (s2 _ _ hr1)
    · rintro i x σ H' hx ⟨v2, v3, rfl, s2⟩
      obtain ⟨o, ho1, rfl⟩ := list_map_get hx
      have ho := List.mem_of_getElem? ho1
      have s12 := Same.tr s1 s2
      have A2 := A1.same s12
      obtain ⟨dw, hw⟩ := A2.w
      obtain ⟨d1, hof⟩ := (A2.off o ho).of
      refine ⟨_, rfl, W.wa, dw, _, rfl, hw, ln_World_office _ _, _, rfl, W, X, o, rfl, A2, ho, _, d1, _, rfl, hof, ln_Office_entry _ _ _, _, rfl, W.Ls o, X.S o, t, rfl, A2.off o ho, fun hn => ?_, fun e he q hq => ?_⟩
      · exact ⟨_, rfl, rfl, false, rfl, iteF ⟨_, _, rfl, s2⟩⟩
      · have s3 := Same.upd (H := H') (o := HO.tup (told t e)) hq
        have hq3 := upd_same (H := H') (a := q) (o := HO.tup (told t e))
        generalize hH3 : upd H' q (HO.tup (told t e)) = H3 at s3 hq3 ⊢
        refine ⟨_, rfl, rfl, true, ?_, iteT ⟨_, rfl, ixT T hq3 (.str e.st.str) ⟨rfl, _, rfl, ?_⟩⟩⟩
        · rw [dnon_ref]
          rfl
        · rw [stq_held]
          by_cases c : e.st = .held
          · exact ifT (decide_eq_true c) ⟨_, rfl, k o ho H3 (Same.tr s12 s3)⟩
          · exact ifF (decide_eq_false c) ⟨_, _, rfl, Same.tr s2 s3⟩
    · rintro σ H' ⟨v2, v3, rfl, s2⟩
      exact k "ash" (by decide +kernel) H' (Same.tr s1 s2)
/-- who has used a thing: the office, the home, the quantity -/
def useRow (X : WS) (t o : Str) : List (Str × Option Str × Int) := match (X.S o).get t with
  | none => []
  | some e => if e.st = .used then [(o, e.home, e.qty)] else []
def users (X : WS) (t : Str) : List (Str × Option Str × Int) := names4.flatMap (useRow X t)
def uEnc (u : Str × Option Str × Int) : List V := [.str u.1, optV u.2.1, .int u.2.2]
def spUsers (K : PySem.W.Frag) : Sp := fun vs H Q _ => ∃ (W : WLay) (X : WS) (t : Str), vs = [.ref W.wa, .str t] ∧ WAt K H W X ∧ ∀ r H' ys, Same H H' → H r = none → H' r = some (.lst ys) → Tups H' ys ((users X t).map uEnc) → Q (.ref r) H'
theorem useRow_len (X : WS) (t o : Str) : (useRow X t o).length ≤ 1 := by
  unfold useRow
  split
  · exact Nat.zero_le _
  · split <;> simp
theorem sc_law_users : FnScope ["_law_world", "_law_thing", "_law_users_here", "_law_name", "_law_found"] ["_law_world", "_law_thing"] (defScope s_law_users) := ⟨rfl, rfl, rfl, by decide +kernel, rfl, by decide +kernel, by decide +kernel⟩
abbrev Ok_law_users (P : Program) (w : World) (K : PySem.W.Frag) (mg : Str → Option Value) (base : Heap) : Prop := Has P w K mg base CX0 3 (f_law_users K) ["_law_world", "_law_thing"] (spUsers K)
theorem ok_law_users {P : Program} {w : World} {K : PySem.W.Frag} {mg : Str → Option Value} {base : Heap} (T : Txt K mg) (h_law_names : Ok_law_names P w K mg base) (h_Office_entry : Ok_Office_entry P w K mg base) (h_World_office : Ok_World_office P w K mg base) : Ok_law_users P w K mg base := by
  obtain ⟨fd, F⟩ := T.d_law_users
  obtain ⟨fd_law_names, G_law_names, b_law_names⟩ := h_law_names
  have k_law_names : PySem.W.keepIn K (.ref (f_law_names K)) = true := by
    obtain ⟨_, q⟩ := T.d_law_names
    exact q.kp
  obtain ⟨fd_Office_entry, G_Office_entry, b_Office_entry⟩ := h_Office_entry
  obtain ⟨fd_World_office, G_World_office, b_World_office⟩ := h_World_office
  refine ⟨fd, FunD.ok (CX := CX0) F sc_law_users (fun vs H Q E h => ?_) (fun cdv A outer s H vs Q E hr h => ?_), FunD.bindsN F fun _ _ _ _ _ _ us hl => match us, hl with | [_, _], _ => rfl⟩
  · obtain ⟨W, X, t, rfl, _⟩ := h
    rfl
  · have hu := hu_of hr
    refine ⟨_, PSs.nox (pss_cons (ps_set (i := 2) sc_law_users.nd rfl (Or.inl rfl) (pe_lst pa_nil))
      (pss_cons (ps_for PassesOwn.never rfl (pi_list (pe_call0 G_law_names (hr.mono (by decide)) rfl T.g_law_names k_law_names b_law_names .nil pass0)) (pg_name (i := 3) sc_law_users.nd rfl (Or.inl rfl)) (pss_cons (ps_set (i := 4) sc_law_users.nd rfl (Or.inl rfl) (pe_meth (pe_meth (pv 0) T.cl_World T.m_World_office G_World_office (hr.mono (by decide)) b_World_office .nil pass0 (pa_cons (pv 3) pa_nil)) T.cl_Office T.m_Office_entry G_Office_entry (hr.mono (by decide)) b_Office_entry .nil pass0 (pa_cons (pv 1) pa_nil)))
      (pss_one (ps_if (PW.pt (pw_and (pt_cmpR op_notN (pv 4) pe_non (nomark _)) (pw_and1 (pt_cmpR op_eq (pe_ix ix_tup (pv 4) pe_int (fun _ _ => rfl)) pe_str (nomark _))))) (pss_one (ps_expr (pe_bm PySem.F.plainAttrs_list PySem.F.slot_list_append PySem.F.type_list_append mt_append (pv 2) (pa_cons (pe_tup (pa_cons (pv 3) (pa_cons (pe_ix ix_tup (pv 4) pe_int (fun _ _ => rfl)) (pa_cons (pe_ix ix_tup (pv 4) pe_int (fun _ _ => rfl)) pa_nil)))) pa_nil)))) pss_nil))))
      (pss_one (ps_ret (pv 2))))), ?_⟩
    obtain ⟨W, X, t, rfl, A1, k⟩ := h
    refine ⟨Nat.zero_le _, fun l hl => ?_⟩
    have s0 := Same.upd (H := H) (o := HO.lst []) hl
    have hl0 := upd_same (H := H) (a := l) (o := HO.lst [])
    generalize hH0 : upd H l (.lst []) = H0 at s0 hl0 ⊢
    refine ⟨rfl, fun r hr => ?_⟩
    have s1 := Same.upd (H := H0) (o := HO.lst (names4.map V.str)) hr
    have hr1 := upd_same (H := H0) (a := r) (o := HO.lst (names4.map V.str))
    have hl1 := s1 _ _ hl0
    have nrl : r ≠ l := fun z => by
      rw [z, hl0] at hr
      cases hr
    generalize hH1 : upd H0 r (.lst (names4.map V.str)) = H1 at s1 hr1 hl1 ⊢
    have s01 := Same.tr s0 s1
    refine ⟨r, rfl, ⟨_, SqL.of hr1⟩, for_list (K := K) (a := r) (xs := names4.map V.str)
      (fun i σ H' => ∃ v3 v4 ys, σ = [some (.ref W.wa), some (.str t), some (.ref l), v3, v4] ∧ Same H H' ∧ H' r = some (.lst (names4.map V.str)) ∧ H' l = some (.lst ys) ∧ Tups H' ys (((names4.take i).flatMap (useRow X t)).map uEnc)) ⟨_, _, [], rfl, s01, hr1, hl1, trivial⟩ ?_ ?_ ?_⟩
    · rintro i σ H' _ ⟨v3, v4, ys, rfl, s2, h1, _⟩
      exact SqL.of h1
    · rintro i x σ H' hx ⟨v3, v4, ys, rfl, s2, h1, h2, tp⟩
      obtain ⟨o, ho1, rfl⟩ := list_map_get hx
      have ho := List.mem_of_getElem? ho1
      have hi4 := (List.getElem?_eq_some_iff.mp ho1).1
      have A2 := A1.same s2
      obtain ⟨dw, hw⟩ := A2.w
      obtain ⟨d1, hof⟩ := (A2.off o ho).of
      have tk : (names4.take (i + 1)).flatMap (useRow X t) = (names4.take i).flatMap (useRow X t) ++ useRow X t o := by
        rw [take_snoc ho1, List.flatMap_append]
        simp
      refine ⟨_, rfl, W.wa, dw, _, rfl, hw, ln_World_office _ _, _, rfl, W, X, o, rfl, A2, ho, _, d1, _, rfl, hof, ln_Office_entry _ _ _, _, rfl, W.Ls o, X.S o, t, rfl, A2.off o ho, fun hn => ?_, fun e he q hq => ?_⟩
      · have e1 : useRow X t o = [] := by
          unfold useRow
          rw [hn]
        refine ⟨_, rfl, rfl, false, rfl, iteF ⟨_, _, ys, rfl, s2, h1, h2, ?_⟩⟩
        rw [tk, e1, List.append_nil]
        exact tp
      · have s3 := Same.upd (H := H') (o := HO.tup (told t e)) hq
        have hq3 := upd_same (H := H') (a := q) (o := HO.tup (told t e))
        have h13 := s3 _ _ h1
        have h23 := s3 _ _ h2
        have tp3 := tp.same s3
        have s23 := Same.tr s2 s3
        generalize hH3 : upd H' q (HO.tup (told t e)) = H3 at s3 hq3 h13 h23 tp3 s23 ⊢
        refine ⟨_, rfl, rfl, true, ?_, iteT ⟨_, rfl, ixT T hq3 (.str e.st.str) ⟨rfl, _, rfl, ?_⟩⟩⟩
        · rw [dnon_ref]
          rfl
        · rw [stq_used]
          by_cases c : e.st = .used
          · have e1 : useRow X t o = [(o, e.home, e.qty)] := by
              unfold useRow
              rw [he]
              exact if_pos c
            refine ifT (decide_eq_true c) ⟨_, rfl, .inl ⟨rfl, _, SqL.of h23⟩, ?_⟩
            refine ⟨_, rfl, _, rfl, ixT T hq3 (optV e.home) ⟨_, rfl, ixT T hq3 (.int e.qty) ⟨line16 (by show 3 ≤ 16000000; decide), fun p hp => ?_⟩⟩⟩
            have s4 := Same.upd (H := H3) (o := HO.tup [.str o, optV e.home, .int e.qty]) hp
            have hp4 := upd_same (H := H3) (a := p) (o := HO.tup [.str o, optV e.home, .int e.qty])
            have h14 := s4 _ _ h13
            have h24 := s4 _ _ h23
            have tp4 := tp3.same s4
            have s24 := Same.tr s23 s4
            generalize hH4 : upd H3 p (HO.tup [.str o, optV e.home, .int e.qty]) = H4 at s4 hp4 h14 h24 tp4 s24 ⊢
            have yl : ys.length ≤ 4 := by
              rw [tp.len, List.length_map]
              have g : ∀ l : List Str, (l.flatMap (useRow X t)).length ≤ l.length := by
                intro l
                induction l with
                | nil => exact Nat.le_refl _
                | cons a b ih =>
                  have := useRow_len X t a
                  rw [List.flatMap_cons, List.length_append, List.length_cons]
                  omega
              have := g (names4.take i)
              rw [List.length_take] at this
              have n4 : names4.length = 4 := rfl
              omega
            refine ⟨l, ys, _, rfl, rfl, h24, lt_line (by omega), _, _, ys ++ [.ref p], rfl, fun b u z => ?_, (upd_ne nrl).trans h14, upd_same, ?_⟩
            · rw [upd_ne (ne_of_none z hl)]
              exact s24 _ _ z
            · rw [tk, e1, List.map_append]
              exact (tp4.snoc hp4).mono fun a rr z => (upd_ne (ne_of z h24 (by intro z; cases z))).trans z
          · have e1 : useRow X t o = [] := by
              unfold useRow
              rw [he]
              exact if_neg c
            refine ifF (decide_eq_false c) ⟨_, _, ys, rfl, s23, h13, h23, ?_⟩
            rw [tk, e1, List.append_nil]
            exact tp3
    · rintro σ H' ⟨v3, v4, ys, rfl, s2, h1, h2, tp⟩
      rw [List.length_map, List.take_length] at tp
      exact ⟨_, rfl, k l H' ys s2 hl h2 tp⟩
end LH
namespace LH
open PySem PySem.Spec PyProof.Rows L2
def spSizes (K : PySem.W.Frag) : Sp := fun vs H Q _ => ∃ (W : WLay) (X : WS) (o t : Str) (c : Int), vs = [.ref W.wa, .str o, .str t, .int c] ∧ WAt K H W X ∧ o ∈ names4 ∧ Small (X.S o) ∧
  ∀ r H' (ns : List Int), Same H H' → H r = none → H' r = some (.lst (ns.map V.int)) → ns.length ≤ 3 → Q (.ref r) H'
theorem sc_law_sizes : FnScope ["_law_world", "_law_name", "_law_thing", "_law_cell", "_law_found", "_law_quantity", "_law_first", "_law_second"] ["_law_world", "_law_name", "_law_thing", "_law_cell"] (defScope s_law_sizes) := ⟨rfl, rfl, rfl, by decide +kernel, rfl, by decide +kernel, by decide +kernel⟩
abbrev Ok_law_sizes (P : Program) (w : World) (K : PySem.W.Frag) (mg : Str → Option Value) (base : Heap) : Prop := Has P w K mg base CX0 3 (f_law_sizes K) ["_law_world", "_law_name", "_law_thing", "_law_cell"] (spSizes K)
theorem ok_law_sizes {P : Program} {w : World} {K : PySem.W.Frag} {mg : Str → Option Value} {base : Heap} (T : Txt K mg) (h_Office_entry : Ok_Office_entry P w K mg base) (h_World_office : Ok_World_office P w K mg base) : Ok_law_sizes P w K mg base := by
  obtain ⟨fd, F⟩ := T.d_law_sizes
  obtain ⟨fd_Office_entry, G_Office_entry, b_Office_entry⟩ := h_Office_entry
  obtain ⟨fd_World_office, G_World_office, b_World_office⟩ := h_World_office
  refine ⟨fd, FunD.ok (CX := CX0) F sc_law_sizes (fun vs H Q E h => ?_) (fun cdv A outer s H vs Q E hr h => ?_), FunD.bindsN F fun _ _ _ _ _ _ us hl => match us, hl with | [_, _, _, _], _ => rfl⟩
  · obtain ⟨W, X, o, t, c, rfl, _⟩ := h
    rfl
  · have hu := hu_of hr
    refine ⟨_, PSs.nox (pss_cons (ps_set (i := 4) sc_law_sizes.nd rfl (Or.inl rfl) (pe_meth (pe_meth (pv 0) T.cl_World T.m_World_office G_World_office (hr.mono (by decide)) b_World_office .nil pass0 (pa_cons (pv 1) pa_nil)) T.cl_Office T.m_Office_entry G_Office_entry (hr.mono (by decide)) b_Office_entry .nil pass0 (pa_cons (pv 2) pa_nil)))
      (pss_cons (ps_set (i := 5) sc_law_sizes.nd rfl (Or.inl rfl) pe_int)
      (pss_cons (ps_if (pt_cmpR op_notN (pv 4) pe_non (nomark _)) (pss_one (ps_set (i := 5) sc_law_sizes.nd rfl (Or.inl rfl) (pe_ix ix_tup (pv 4) pe_int (fun _ _ => rfl)))) pss_nil)
      (pss_cons (ps_set (i := 6) sc_law_sizes.nd rfl (Or.inl rfl) (pe_op op_mod (pe_callTy call_int1 (by rfl) T.b_int (by decide +kernel) (pa_cons (pv 3) pa_nil)) (pe_op op_add (pv 5) pe_int)))
      (pss_cons (ps_if (pt_cmpR op_eq (pe_op op_mod (pe_op op_fdiv (pe_callTy call_int1 (by rfl) T.b_int (by decide +kernel) (pa_cons (pv 3) pa_nil)) pe_int) pe_int) pe_int (nomark _)) (pss_cons (ps_set (i := 7) sc_law_sizes.nd rfl (Or.inl rfl) (pe_op op_mod (pe_op op_fdiv (pe_callTy call_int1 (by rfl) T.b_int (by decide +kernel) (pa_cons (pv 3) pa_nil)) pe_int) (pe_op op_add (pe_op op_sub (pv 5) (pv 6)) pe_int)))
      (pss_one (ps_ret (pe_lst (pa_cons (pv 6) (pa_cons (pv 7) (pa_cons (pe_op op_sub (pe_op op_sub (pv 5) (pv 6)) (pv 7)) pa_nil))))))) pss_nil)
      (pss_one (ps_ret (pe_lst (pa_cons (pv 6) (pa_cons (pe_op op_sub (pv 5) (pv 6)) pa_nil)))))))))), ?_⟩
    obtain ⟨W, X, o, t, c, rfl, A1, ho, sm, k⟩ := h
    obtain ⟨dw, hw⟩ := A1.w
    obtain ⟨d1, hof⟩ := (A1.off o ho).of
    refine ⟨_, rfl, W.wa, dw, _, rfl, hw, ln_World_office _ _, _, rfl, W, X, o, rfl, A1, ho, _, d1, _, rfl, hof, ln_Office_entry _ _ _, _, rfl, W.Ls o, X.S o, t, rfl, A1.off o ho, fun hn => ?_, fun e he r hr => ?_⟩
    · refine ⟨_, rfl, rfl, false, rfl, iteF ?_⟩
      obtain ⟨q, eq5, q0⟩ : ∃ q : Int, q = 5 ∧ 0 ≤ q := ⟨5, rfl, by decide⟩
      rw [← eq5]
      have s1 : Same H H := Same.rfl'
      -- first = cell % (quantity + 1)
      refine ⟨_, rfl, .inl ⟨c, rfl, ?_⟩⟩
      refine ⟨_, rfl, _, _, rfl, rfl, _, _, rfl, rfl, (by show 0 < q + 1; omega), ?_⟩
      have f0 : 0 ≤ c % (q + 1) := Int.emod_nonneg c (by omega)
      have f1 : c % (q + 1) < q + 1 := Int.emod_lt_of_pos c (by omega)
      refine ⟨_, rfl, .inl ⟨c, rfl, ?_⟩⟩
      refine ⟨_, _, rfl, rfl, ⟨by decide, by decide⟩, _, _, rfl, rfl, (by show (0 : Int) < 3; decide), rfl, _, rfl, ?_⟩
      by_cases c1 : V.int (c / 64 % 3) = V.int 0
      · refine ifT (decide_eq_true c1) ?_
        refine ⟨_, rfl, .inl ⟨c, rfl, ?_⟩⟩
        refine ⟨_, _, rfl, rfl, ⟨by decide, by decide⟩, ?_⟩
        refine ⟨_, rfl, _, rfl, _, _, rfl, rfl, _, _, rfl, rfl, _, _, rfl, rfl, (by show 0 < q - c % (q + 1) + 1; omega), ?_⟩
        refine ⟨_, rfl, _, rfl, _, rfl, _, rfl, _, _, rfl, rfl, _, rfl, _, _, rfl, rfl, line16 (by show 3 ≤ 16000000; decide), fun z hz => ?_⟩
        exact k z _ [c % (q + 1), c / 7 % (q - c % (q + 1) + 1), q - c % (q + 1) - c / 7 % (q - c % (q + 1) + 1)] (Same.tr s1 (Same.upd hz)) (Same.none s1 hz) upd_same (Nat.le_refl _)
      · refine ifF (decide_eq_false c1) ?_
        refine ⟨_, rfl, _, rfl, _, rfl, _, _, rfl, rfl, line16 (by show 2 ≤ 16000000; decide), fun z hz => ?_⟩
        exact k z _ [c % (q + 1), q - c % (q + 1)] (Same.tr s1 (Same.upd hz)) (Same.none s1 hz) upd_same (by show 2 ≤ 3; decide)
    · have s1 := Same.upd (H := H) (o := HO.tup (told t e)) hr
      have hr1 := upd_same (H := H) (a := r) (o := HO.tup (told t e))
      generalize hH1 : upd H r (HO.tup (told t e)) = H1 at s1 hr1 ⊢
      refine ⟨_, rfl, rfl, true, ?_, iteT ⟨_, rfl, ixT T hr1 (.int e.qty) ?_⟩⟩
      · rw [dnon_ref]
        rfl
      have q0 := (sm.ent t e he).q0
      generalize e.qty = q at q0 ⊢
      -- first = cell % (quantity + 1)
      refine ⟨_, rfl, .inl ⟨c, rfl, ?_⟩⟩
      refine ⟨_, rfl, _, _, rfl, rfl, _, _, rfl, rfl, (by show 0 < q + 1; omega), ?_⟩
      have f0 : 0 ≤ c % (q + 1) := Int.emod_nonneg c (by omega)
      have f1 : c % (q + 1) < q + 1 := Int.emod_lt_of_pos c (by omega)
      refine ⟨_, rfl, .inl ⟨c, rfl, ?_⟩⟩
      refine ⟨_, _, rfl, rfl, ⟨by decide, by decide⟩, _, _, rfl, rfl, (by show (0 : Int) < 3; decide), rfl, _, rfl, ?_⟩
      by_cases c1 : V.int (c / 64 % 3) = V.int 0
      · refine ifT (decide_eq_true c1) ?_
        refine ⟨_, rfl, .inl ⟨c, rfl, ?_⟩⟩
        refine ⟨_, _, rfl, rfl, ⟨by decide, by decide⟩, ?_⟩
        refine ⟨_, rfl, _, rfl, _, _, rfl, rfl, _, _, rfl, rfl, _, _, rfl, rfl, (by show 0 < q - c % (q + 1) + 1; omega), ?_⟩
        refine ⟨_, rfl, _, rfl, _, rfl, _, rfl, _, _, rfl, rfl, _, rfl, _, _, rfl, rfl, line16 (by show 3 ≤ 16000000; decide), fun z hz => ?_⟩
        exact k z _ [c % (q + 1), c / 7 % (q - c % (q + 1) + 1), q - c % (q + 1) - c / 7 % (q - c % (q + 1) + 1)] (Same.tr s1 (Same.upd hz)) (Same.none s1 hz) upd_same (Nat.le_refl _)
      · refine ifF (decide_eq_false c1) ?_
        refine ⟨_, rfl, _, rfl, _, rfl, _, _, rfl, rfl, line16 (by show 2 ≤ 16000000; decide), fun z hz => ?_⟩
        exact k z _ [c % (q + 1), q - c % (q + 1)] (Same.tr s1 (Same.upd hz)) (Same.none s1 hz) upd_same (by show 2 ≤ 3; decide)
end LH
namespace LH
open PySem PySem.Spec PyProof.Rows L2
def spJoined (K : PySem.W.Frag) : Sp := fun vs H Q _ => ∃ (W : WLay) (X : WS) (o : Str) (c : Int), vs = [.ref W.wa, .str o, .int c] ∧ WAt K H W X ∧ o ∈ names4 ∧ Small (X.S o) ∧
  ∀ r H' (ts : List Str), Same H H' → H r = none → H' r = some (.lst (ts.map V.str)) → ts.length ≤ 3 → Q (.ref r) H'
theorem atI_mod {xs : List V} {i : Int} (h0 : 0 ≤ i) (h1 : i < xs.length) : ∃ v, v ∈ xs ∧ atI xs i = some v := by
  obtain ⟨n, rfl⟩ := Int.eq_ofNat_of_zero_le h0
  have hn : n < xs.length := by omega
  exact ⟨xs[n], List.getElem_mem hn, atI_nat (List.getElem?_eq_getElem hn)⟩
theorem sc_law_joined : FnScope ["_law_world", "_law_name", "_law_cell", "_law_held", "_law_count", "_law_k"] ["_law_world", "_law_name", "_law_cell"] (defScope s_law_joined) := ⟨rfl, rfl, rfl, by decide +kernel, rfl, by decide +kernel, by decide +kernel⟩
abbrev Ok_law_joined (P : Program) (w : World) (K : PySem.W.Frag) (mg : Str → Option Value) (base : Heap) : Prop := Has P w K mg base CX0 3 (f_law_joined K) ["_law_world", "_law_name", "_law_cell"] (spJoined K)
theorem ok_law_joined {P : Program} {w : World} {K : PySem.W.Frag} {mg : Str → Option Value} {base : Heap} (T : Txt K mg) (h_Office_held : Ok_Office_held P w K mg base) (h_World_office : Ok_World_office P w K mg base) : Ok_law_joined P w K mg base := by
  obtain ⟨fd, F⟩ := T.d_law_joined
  obtain ⟨fd_Office_held, G_Office_held, b_Office_held⟩ := h_Office_held
  obtain ⟨fd_World_office, G_World_office, b_World_office⟩ := h_World_office
  refine ⟨fd, FunD.ok (CX := CX0) F sc_law_joined (fun vs H Q E h => ?_) (fun cdv A outer s H vs Q E hr h => ?_), FunD.bindsN F fun _ _ _ _ _ _ us hl => match us, hl with | [_, _, _], _ => rfl⟩
  · obtain ⟨W, X, o, c, rfl, _⟩ := h
    rfl
  · have hu := hu_of hr
    refine ⟨_, PSs.nox (pss_cons (ps_set (i := 3) sc_law_joined.nd rfl (Or.inr rfl) (pe_meth0 (pe_meth (pv 0) T.cl_World T.m_World_office G_World_office (hr.mono (by decide)) b_World_office .nil pass0 (pa_cons (pv 1) pa_nil)) T.cl_Office T.m_Office_held G_Office_held (hr.mono (by decide)) b_Office_held .nil pass0))
      (pss_cons (ps_if (pt_not (pt_truth (pv 3) (by intro _; rfl))) (pss_one (ps_ret (pe_lst (pa_cons pe_str (pa_cons pe_str pa_nil))))) pss_nil)
      (pss_cons (ps_set (i := 4) sc_law_joined.nd rfl (Or.inl rfl) (pe_op op_add pe_int (pe_op op_mod (pe_callTy call_int1 (by rfl) T.b_int (by decide +kernel) (pa_cons (pv 2) pa_nil)) pe_int)))
      (pss_one (ps_ret (pe_lc (own := [("_law_k", 5)]) (g := gName 5) (tt := tYes) (by rfl) sc_law_joined.nd (pi_range1 rfl T.b_range (pa_cons (pv 4) pa_nil)) (blkOk_by (own := [("_law_k", 5)]) (N := ["_law_world", "_law_name", "_law_cell", "_law_held", "_law_count", "_law_k"]) (sc := defScope s_law_joined) (by decide +kernel)) (fun _ _ _ _ _ => (pg_name (i := 5) sc_law_joined.nd rfl (Or.inl rfl))) (fun _ _ _ _ _ => pts_nil) (fun _ _ _ _ _ => (by exact (pe_ix (ix_listB (K := K) rfl) (pv 3) (pe_op op_mod (pe_op op_add (pe_op op_fdiv (pe_callTy call_int1 (by rfl) T.b_int (by decide +kernel) (by exact (pa_cons (pv 2) pa_nil))) pe_int) (pe_op op_mul (pv 5) (pe_op op_add pe_int (pe_op op_mod (pe_op op_fdiv (pe_callTy call_int1 (by rfl) T.b_int (by decide +kernel) (by exact (pa_cons (pv 2) pa_nil))) pe_int) pe_int)))) (pe_callB (call_len_seqB (K := K) rfl) (by rfl) T.b_len PySem.boot_len (by exact (pa_cons (pv 3) pa_nil)))) (fun _ _ => rfl)))))))))), ?_⟩
    obtain ⟨W, X, o, c, rfl, A1, ho, sm, k⟩ := h
    obtain ⟨dw, hw⟩ := A1.w
    obtain ⟨d1, hof⟩ := (A1.off o ho).of
    refine ⟨_, rfl, W.wa, dw, _, rfl, hw, ln_World_office _ _, _, rfl, W, X, o, rfl, A1, ho, _, d1, _, rfl, hof, ln_Office_held _ _ _, W.Ls o, X.S o, rfl, A1.off o ho, by have := sm.es; omega, fun r H1 s1 hr hy => ?_⟩
    have hlen : (((X.S o).es.filter fun p => decide (p.2.st = .held)).map fun p => V.str p.1).length ≤ 900000 := by
      rw [List.length_map]
      have := List.length_filter_le (fun p : Str × Ent => decide (p.2.st = .held)) (X.S o).es
      have := sm.es
      omega
    have hstr : ∀ v ∈ (((X.S o).es.filter fun p => decide (p.2.st = .held)).map fun p => V.str p.1), ∃ t, v = V.str t := fun v hv => by
      obtain ⟨p, _, rfl⟩ := List.mem_map.mp hv
      exact ⟨p.1, rfl⟩
    generalize (((X.S o).es.filter fun p => decide (p.2.st = .held)).map fun p => V.str p.1) = hs at hy hlen hstr
    refine ⟨_, rfl, _, .inl ⟨_, SqL.of hy, rfl⟩, ?_⟩
    cases hs with
    | nil =>
      refine ifT rfl ⟨line16 (by show 2 ≤ 16000000; decide), fun z hz => ?_⟩
      exact k z _ ["ash-1", "ash-2"] (Same.tr s1 (Same.upd hz)) (Same.none s1 hz) upd_same (by show 2 ≤ 3; decide)
    | cons h0 hs =>
      refine ifF rfl ?_
      have m0 : 0 ≤ c % 2 := Int.emod_nonneg c (by decide)
      have m1 : c % 2 < 2 := Int.emod_lt_of_pos c (by decide)
      refine ⟨_, rfl, .inl ⟨c, rfl, _, _, rfl, rfl, (by show (0 : Int) < 2; decide), _, _, rfl, rfl, ?_⟩⟩
      refine ⟨_, rfl, 2 + c % 2, rfl, by omega, by omega, fun D hD => lc_range (lo := 0) (n := (2 + c % 2).toNat) (fun i H' => ∃ ts : List Str, ts.length = i ∧ H' = upd H1 D (.lst (ts.map V.str))) ⟨[], rfl, rfl⟩ (fun i H' hi hh => ?_) (fun H' hh => ?_)⟩
      · obtain ⟨ts, tl, rfl⟩ := hh
        have hyD := (upd_ne (H := H1) (o := .lst (ts.map V.str)) (ne_of_none hy hD)).trans hy
        have n0 : (0 : Int) < ((h0 :: hs).length : Int) := by
          rw [List.length_cons]
          omega
        have b0 : 0 ≤ (c / 3 + (0 + (i : Int)) * (1 + c / 50 % 2)) % ((h0 :: hs).length : Int) := Int.emod_nonneg _ (by omega)
        have b1 : (c / 3 + (0 + (i : Int)) * (1 + c / 50 % 2)) % ((h0 :: hs).length : Int) < ((h0 :: hs).length : Int) := Int.emod_lt_of_pos _ n0
        obtain ⟨v, hv, ev⟩ := atI_mod b0 b1
        obtain ⟨t, rfl⟩ := hstr v hv
        refine ⟨rfl, _, rfl, ?_⟩
        refine ⟨_, rfl, .inl ⟨c, rfl, _, _, rfl, rfl, ⟨by decide, by decide⟩, ?_⟩⟩
        refine ⟨_, rfl, ?_⟩
        refine ⟨_, rfl, .inl ⟨c, rfl, _, _, rfl, rfl, ⟨by decide, by decide⟩, _, _, rfl, rfl, (by show (0 : Int) < 2; decide), ?_⟩⟩
        have cm : CMul (0 + (i : Int)) (1 + c / 50 % 2) := .inl ⟨by omega, by omega⟩
        refine ⟨_, _, rfl, rfl, _, _, rfl, rfl, cm, _, _, rfl, rfl, _, rfl, r, _, rfl, .inl (SqL.of hyD), _, _, rfl, rfl, n0, r, _, _, _, rfl, rfl, SqL.of hyD, ev, _, upd_same, ?_, ts ++ [t], ?_, ?_⟩
        · rw [List.length_map]
          exact lt_line (by omega)
        · rw [List.length_append, tl]
          rfl
        · rw [upd_upd, List.map_append]
          rfl
      · obtain ⟨ts, tl, rfl⟩ := hh
        refine k D _ ts (Same.tr s1 (Same.upd hD)) (Same.none s1 hD) upd_same (by omega)
def spLNet (K : PySem.W.Frag) : Sp := fun vs H Q E => ∃ (W : WLay) (X : WS) (st c : Int), vs = [.ref W.wa, .int st, .int c] ∧ WAt K H W X ∧ Sml X 14000000 ∧ Errs K H E ∧
  (∀ (i : Nat) l H' W' S' r, X.ns[i]? = some l → Noted (X.S l.rcv) (lineOf l) S' → WStp K H W X H' W' (dlv X i l S') → H' r = some (.lst []) → Q (.ref r) H') ∧
  (∀ (i : Nat) H' W' r, WStp K H W X H' W' (X.drop i) → H' r = some (.lst []) → Q (.ref r) H') ∧
  (∀ (i : Nat) l H' W' r, X.ns[i]? = some l → WStp K H W X H' W' (X.send [l]) → H' r = some (.lst []) → Q (.ref r) H')
theorem sc_law_net : FnScope ["_law_world", "_law_step_here", "_law_cell", "_law_letters", "_law_place"] ["_law_world", "_law_step_here", "_law_cell"] (defScope s_law_net) := ⟨rfl, rfl, rfl, by decide +kernel, rfl, by decide +kernel, by decide +kernel⟩
abbrev Ok_law_net (P : Program) (w : World) (K : PySem.W.Frag) (mg : Str → Option Value) (base : Heap) : Prop := Has P w K mg base (L2.CX P w) 11 (f_law_net K) ["_law_world", "_law_step_here", "_law_cell"] (spLNet K)
theorem ok_law_net {P : Program} {w : World} {K : PySem.W.Frag} {mg : Str → Option Value} {base : Heap} (T : Txt K mg) (h_Net_letters : Ok_Net_letters P w K mg base) (h_World_deliver : Ok_World_deliver P w K mg base) (h_Net_take : Ok_Net_take P w K mg base) (h_Net_double : Ok_Net_double P w K mg base) : Ok_law_net P w K mg base := by
  obtain ⟨fd, F⟩ := T.d_law_net
  obtain ⟨fd_Net_letters, G_Net_letters, b_Net_letters⟩ := h_Net_letters
  obtain ⟨fd_World_deliver, G_World_deliver, b_World_deliver⟩ := h_World_deliver
  obtain ⟨fd_Net_take, G_Net_take, b_Net_take⟩ := h_Net_take
  obtain ⟨fd_Net_double, G_Net_double, b_Net_double⟩ := h_Net_double
  refine ⟨fd, FunD.ok (CX := (L2.CX P w)) F sc_law_net (fun vs H Q E h => ?_) (fun cdv A outer s H vs Q E hr h => ?_), FunD.bindsN F fun _ _ _ _ _ _ us hl => match us, hl with | [_, _, _], _ => rfl⟩
  · obtain ⟨W, X, st, c, rfl, _⟩ := h
    rfl
  · have hu := hu_of hr
    refine ⟨_, (pss_cons (ps_set (i := 3) sc_law_net.nd rfl (Or.inl rfl) (pe_meth0 (pe_fld (pv 0) rfl) T.cl_Net T.m_Net_letters G_Net_letters (hr.mono (by decide)) b_Net_letters .nil pass0))
      (pss_cons (ps_set (i := 4) sc_law_net.nd rfl (Or.inl rfl) (pe_op op_mod (pe_callTy call_int1 (by rfl) T.b_int (by decide +kernel) (pa_cons (pv 2) pa_nil)) (pe_callB (call_max2 rfl) (by rfl) T.b_max (by decide +kernel) (pa_cons pe_int (pa_cons (pe_callB call_len_seq (by rfl) T.b_len PySem.boot_len (pa_cons (pv 3) pa_nil)) pa_nil)))))
      (pss_cons (ps_if (pt_cmpR op_lt (pv 1) pe_int (nomark _)) (pss_one (ps_expr (pe_meth (pv 0) T.cl_World T.m_World_deliver G_World_deliver (hr.mono (by decide)) b_World_deliver .nil (passes_call (takes_of rfl rfl rfl rfl) (fun _ _ _ _ z => z)) (pa_cons (pv 4) pa_nil)))) (pss_one (ps_if (pt_cmpR op_eq (pv 1) pe_int (nomark _)) (pss_one (ps_expr (pe_meth (pe_fld (pv 0) rfl) T.cl_Net T.m_Net_take G_Net_take (hr.mono (by decide)) b_Net_take .nil (passes_call (takes_of rfl rfl rfl rfl) (fun _ _ _ _ z => z)) (pa_cons (pv 4) pa_nil)))) (pss_one (ps_expr (pe_meth (pe_fld (pv 0) rfl) T.cl_Net T.m_Net_double G_Net_double (hr.mono (by decide)) b_Net_double .nil (passes_call (takes_of rfl rfl rfl rfl) (fun _ _ _ _ z => z)) (pa_cons (pv 4) pa_nil)))))))
      (pss_one (ps_ret (pe_lst pa_nil)))))), ?_⟩
    obtain ⟨W, X, st, c, rfl, A1, sml, kE, k1, k2, k3⟩ := h
    obtain ⟨dw, hw⟩ := A1.w
    obtain ⟨ys, N, tp⟩ := A1.net
    obtain ⟨dn, hn1, hn2⟩ := id N
    have yl := tp.len
    rw [List.length_map] at yl
    have sl := sml.len
    refine ⟨_, rfl, rd_World_net T hw ⟨W.nt, dn, _, rfl, hn1, ln_Net_letters _, W.nt, W.nl, ys, rfl, N, fun r hr => ?_⟩⟩
    have s1 := Same.upd (H := H) (o := HO.lst ys) hr
    have hr1 := upd_same (H := H) (a := r) (o := HO.lst ys)
    have st1 := WStp.same A1 s1
    generalize hH1 : upd H r (.lst ys) = H1 at s1 hr1 st1 ⊢
    refine ⟨_, rfl, .inl ⟨c, rfl, ?_⟩⟩
    refine ⟨_, rfl, r, ys, rfl, .inl (SqL.of hr1), 1, (ys.length : Int), rfl, _, _, rfl, rfl, ?_, ?_⟩
    · show (0 : Int) < if (ys.length : Int) > 1 then (ys.length : Int) else 1
      split <;> omega
    have pos : (0 : Int) < if (ys.length : Int) > 1 then (ys.length : Int) else 1 := by split <;> omega
    have b0 := Int.emod_nonneg c (show (if (ys.length : Int) > 1 then (ys.length : Int) else 1) ≠ 0 by omega)
    have b1 := Int.emod_lt_of_pos c pos
    obtain ⟨i, ei⟩ := Int.eq_ofNat_of_zero_le b0
    have bi : i < 2 ^ 40 := by
      have : (if (ys.length : Int) > 1 then (ys.length : Int) else 1) ≤ 14000000 := by split <;> omega
      omega
    have ev : (fun i j => V.int (i % j)) c (if (ys.length : Int) > 1 then (ys.length : Int) else 1) = V.int (i : Int) := congrArg V.int ei
    have A2 := st1.at_
    obtain ⟨d2, hw2⟩ := A2.w
    refine ⟨_, rfl, _, _, rfl, rfl, _, rfl, ?_⟩
    by_cases c1 : st < 14
    · refine ifT (decide_eq_true c1) ?_
      refine ⟨_, rfl, W.wa, d2, _, rfl, hw2, ln_World_deliver _ _, _, rfl, W, X, i, congrArg (fun z => [V.ref W.wa, z]) ev, A2, bi, sl, sml.ok, sml.sm, fun _ => kE.same s1, fun l hl H3 W3 S3 v nt s3 => ?_⟩
      refine ⟨Nat.zero_le _, fun z hz => ?_⟩
      have s4 := Same.upd (H := H3) (o := HO.lst []) hz
      exact k1 i l _ W3 S3 z hl nt (st1.trans (s3.trans (WStp.same s3.at_ s4))) upd_same
    · refine ifF (decide_eq_false c1) ⟨_, rfl, rfl, _, rfl, ?_⟩
      obtain ⟨zs, N2, tp2⟩ := A2.net
      have zl := tp2.len
      rw [List.length_map] at zl
      obtain ⟨dn2, hm1, hm2⟩ := id N2
      have eN : (xNoLetter K) = xNoLetter K := rfl
      by_cases c2 : V.int st = V.int 14
      · refine ifT (decide_eq_true c2) ?_
        refine ⟨_, rfl, rd_World_net T hw2 ⟨W.nt, dn2, _, rfl, hm1, ln_Net_take _, _, rfl, W.nt, W.nl, zs, i, congrArg (fun z => [V.ref W.nt, z]) ev, N2, bi, line16 (by omega), fun _ H' s => kE _ _ (.inr (.inr (.inr (.inr (.inr (.inr rfl)))))) (Same.tr s1 s), fun v hv H3 l' kp hl' N' gr => ?_⟩⟩
        have st3 := wst_take A2 tp2 kp hl' N' gr
        refine ⟨Nat.zero_le _, fun z hz => ?_⟩
        have s4 := Same.upd (H := H3) (o := HO.lst []) hz
        exact k2 i _ _ z (st1.trans (st3.trans (WStp.same st3.at_ s4))) upd_same
      · refine ifF (decide_eq_false c2) ?_
        refine ⟨_, rfl, rd_World_net T hw2 ⟨W.nt, dn2, _, rfl, hm1, ln_Net_double _, _, rfl, W.nt, W.nl, zs, i, congrArg (fun z => [V.ref W.nt, z]) ev, N2, lt_line (by omega), fun _ H' s => kE _ _ (.inr (.inr (.inr (.inr (.inr (.inr rfl)))))) (Same.tr s1 s), fun v hv => ?_⟩⟩
        obtain ⟨l, hl⟩ : ∃ l, X.ns[i]? = some l := ⟨X.ns[i]'(by have := (List.getElem?_eq_some_iff.mp hv).1; omega), List.getElem?_eq_getElem _⟩
        obtain ⟨a, ha1, ha⟩ := tp2.at hl
        rw [hv] at ha1
        cases ha1
        have st3 := wst_send A2 hm1 hm2 tp2 ha
        refine ⟨Nat.zero_le _, fun z hz => ?_⟩
        have s4 := Same.upd (H := upd H1 W.nl (.lst (zs ++ [V.ref a]))) (o := HO.lst []) hz
        exact k3 i l _ _ z hl (st1.trans (st3.trans (WStp.same st3.at_ s4))) upd_same
end LH
namespace LH
open PySem PySem.Spec PyProof.Rows L2
/-! ### payments, and whether all is right -/
def payOf (X : WS) (o : Str) : List (Str × Str × Str × Int) := (X.S o).ps.map fun p => (o, p.1, p.2.1, p.2.2)
def payRows (X : WS) : List (Str × Str × Str × Int) := names4.flatMap (payOf X)
def rEnc (r : Str × Str × Str × Int) : List V := [.str r.1, .str r.2.1, .str r.2.2.1, .int r.2.2.2]
theorem pay_len {X : WS} (sm : ∀ o ∈ names4, Small (X.S o)) : ∀ l : List Str, (∀ o ∈ l, o ∈ names4) → (l.flatMap (payOf X)).length ≤ l.length * 800000
  | [], _ => Nat.le_refl _
  | o :: r, h => by
    have ih := pay_len sm r fun p hp => h p (List.mem_cons_of_mem _ hp)
    have q := (sm o (h o List.mem_cons_self)).ps
    rw [List.flatMap_cons, List.length_append, List.length_cons]
    unfold payOf at ih ⊢
    rw [List.length_map]
    omega
theorem take_len4 {α : Type} (l : List α) (i : Nat) (h : l.length = 4) : (l.take i).length ≤ 4 := by
  rw [List.length_take]
  omega
def spPays (K : PySem.W.Frag) : Sp := fun vs H Q _ => ∃ (W : WLay) (X : WS), vs = [.ref W.wa] ∧ WAt K H W X ∧ (∀ o ∈ names4, Small (X.S o)) ∧
  ∀ r H' ys, Same H H' → H r = none → H' r = some (.lst ys) → Tups H' ys ((payRows X).map rEnc) → Q (.ref r) H'
theorem sc_law_payments : FnScope ["_law_world", "_law_rows", "_law_name", "_law_thing", "_law_office", "_law_quantity"] ["_law_world"] (defScope s_law_payments) := ⟨rfl, rfl, rfl, by decide +kernel, rfl, by decide +kernel, by decide +kernel⟩
abbrev Ok_law_payments (P : Program) (w : World) (K : PySem.W.Frag) (mg : Str → Option Value) (base : Heap) : Prop := Has P w K mg base CX0 2 (f_law_payments K) ["_law_world"] (spPays K)
theorem ok_law_payments {P : Program} {w : World} {K : PySem.W.Frag} {mg : Str → Option Value} {base : Heap} (T : Txt K mg) (h_law_names : Ok_law_names P w K mg base) (h_Office_payments : Ok_Office_payments P w K mg base) (h_World_office : Ok_World_office P w K mg base) : Ok_law_payments P w K mg base := by
  obtain ⟨fd, F⟩ := T.d_law_payments
  obtain ⟨fd_law_names, G_law_names, b_law_names⟩ := h_law_names
  have k_law_names : PySem.W.keepIn K (.ref (f_law_names K)) = true := by
    obtain ⟨_, q⟩ := T.d_law_names
    exact q.kp
  obtain ⟨fd_Office_payments, G_Office_payments, b_Office_payments⟩ := h_Office_payments
  obtain ⟨fd_World_office, G_World_office, b_World_office⟩ := h_World_office
  refine ⟨fd, FunD.ok (CX := CX0) F sc_law_payments (fun vs H Q E h => ?_) (fun cdv A outer s H vs Q E hr h => ?_), FunD.bindsN F fun _ _ _ _ _ _ us hl => match us, hl with | [_], _ => rfl⟩
  · obtain ⟨W, X, rfl, _⟩ := h
    rfl
  · have hu := hu_of hr
    refine ⟨_, PSs.nox (pss_cons (ps_set (i := 1) sc_law_payments.nd rfl (Or.inl rfl) (pe_lst pa_nil))
      (pss_cons (ps_for PassesOwn.never rfl (pi_list (pe_call0 G_law_names (hr.mono (by decide)) rfl T.g_law_names k_law_names b_law_names .nil pass0)) (pg_name (i := 2) sc_law_payments.nd rfl (Or.inl rfl)) (pss_one (ps_for PassesOwn.never rfl (pi_list (pe_meth0 (pe_meth (pv 0) T.cl_World T.m_World_office G_World_office (hr.mono (by decide)) b_World_office .nil pass0 (pa_cons (pv 2) pa_nil)) T.cl_Office T.m_Office_payments G_Office_payments (hr.mono (by decide)) b_Office_payments .nil pass0)) (pg_tup rfl (pgs_cons (pg_name (i := 3) sc_law_payments.nd rfl (Or.inl rfl)) (pgs_cons (pg_name (i := 4) sc_law_payments.nd rfl (Or.inl rfl)) (pgs_cons (pg_name (i := 5) sc_law_payments.nd rfl (Or.inl rfl)) pgs_nil)))) (pss_one (ps_expr (pe_bm PySem.F.plainAttrs_list PySem.F.slot_list_append PySem.F.type_list_append mt_append (pv 1) (pa_cons (pe_tup (pa_cons (pv 2) (pa_cons (pv 3) (pa_cons (pv 4) (pa_cons (pv 5) pa_nil))))) pa_nil)))))))
      (pss_one (ps_ret (pv 1))))), ?_⟩
    obtain ⟨W, X, rfl, A1, sm, k⟩ := h
    refine ⟨Nat.zero_le _, fun l hl => ?_⟩
    have s0 := Same.upd (H := H) (o := HO.lst []) hl
    have hl0 := upd_same (H := H) (a := l) (o := HO.lst [])
    generalize hH0 : upd H l (.lst []) = H0 at s0 hl0 ⊢
    refine ⟨rfl, fun r hr => ?_⟩
    have s1 := Same.upd (H := H0) (o := HO.lst (names4.map V.str)) hr
    have hr1 := upd_same (H := H0) (a := r) (o := HO.lst (names4.map V.str))
    have hl1 := s1 _ _ hl0
    have nrl : r ≠ l := fun z => by
      rw [z, hl0] at hr
      cases hr
    generalize hH1 : upd H0 r (.lst (names4.map V.str)) = H1 at s1 hr1 hl1 ⊢
    have s01 := Same.tr s0 s1
    refine ⟨r, rfl, ⟨_, SqL.of hr1⟩, for_list (K := K) (a := r) (xs := names4.map V.str)
      (fun i σ H' => ∃ v2 v3 v4 v5 ys, σ = [some (.ref W.wa), some (.ref l), v2, v3, v4, v5] ∧ Same H H' ∧ H' r = some (.lst (names4.map V.str)) ∧ H' l = some (.lst ys) ∧ Tups H' ys (((names4.take i).flatMap (payOf X)).map rEnc)) ⟨_, _, _, _, [], rfl, s01, hr1, hl1, trivial⟩ ?_ ?_ ?_⟩
    · rintro i σ H' _ ⟨v2, v3, v4, v5, ys, rfl, s2, h1, _⟩
      exact SqL.of h1
    · rintro i x σ H' hx ⟨v2, v3, v4, v5, ys, rfl, s2, h1, h2, tp⟩
      obtain ⟨o, ho1, rfl⟩ := list_map_get hx
      have ho := List.mem_of_getElem? ho1
      have A2 := A1.same s2
      obtain ⟨dw, hw⟩ := A2.w
      obtain ⟨d1, hof⟩ := (A2.off o ho).of
      have tk : (names4.take (i + 1)).flatMap (payOf X) = (names4.take i).flatMap (payOf X) ++ payOf X o := by
        rw [take_snoc ho1, List.flatMap_append]
        simp
      have pl := pay_len sm (names4.take i) fun p hp => List.mem_of_mem_take hp
      have tl := take_len4 names4 i rfl
      have ps9 := (sm o ho).ps
      refine ⟨_, rfl, W.wa, dw, _, rfl, hw, ln_World_office _ _, _, rfl, W, X, o, rfl, A2, ho, _, d1, _, rfl, hof, ln_Office_payments _ _ _, W.Ls o, X.S o, rfl, A2.off o ho, by omega, fun q H2 zs s3 hq hq2 tz => ?_⟩
      have zl := tz.len
      have zl2 : (payR (X.S o)).length = (X.S o).ps.length := by
        unfold payR
        rw [List.length_map]
      have nql : q ≠ l := fun z => by
        rw [z, h2] at hq
        cases hq
      have yl := tp.len
      rw [List.length_map] at yl
      refine ⟨q, rfl, ⟨_, SqL.of hq2⟩, for_list (K := K) (a := q) (xs := zs)
        (fun j σ H' => ∃ v3 v4 v5 ws, σ = [some (.ref W.wa), some (.ref l), some (.str o), v3, v4, v5] ∧ Same H H' ∧ H' r = some (.lst (names4.map V.str)) ∧ H' q = some (.lst zs) ∧ Tups H' zs (payR (X.S o)) ∧ H' l = some (.lst ws) ∧
          Tups H' ws ((((names4.take i).flatMap (payOf X)) ++ (payOf X o).take j).map rEnc)) ⟨_, _, _, ys, rfl, Same.tr s2 s3, s3 _ _ h1, hq2, tz, s3 _ _ h2, ?_⟩ ?_ ?_ ?_⟩
      · rw [List.take_zero, List.append_nil]
        exact tp.same s3
      · rintro j σ H' _ ⟨v3, v4, v5, ws, rfl, s4, g1, g2, _⟩
        exact SqL.of g2
      · rintro j x σ H3 hx ⟨v3, v4, v5, ws, rfl, s4, g1, g2, tz3, g3, tw⟩
        obtain ⟨a, row, e1, rfl, e3⟩ := tz3.get hx
        unfold payR at e1
        rw [List.getElem?_map] at e1
        obtain ⟨p, hp, rfl⟩ := Option.map_eq_some_iff.mp e1
        have hp2 : (payOf X o)[j]? = some (o, p.1, p.2.1, p.2.2) := by
          unfold payOf
          rw [List.getElem?_map, hp]
          rfl
        have wl := tw.len
        rw [List.length_map, List.length_append, List.length_take] at wl
        have pol : (payOf X o).length = (X.S o).ps.length := by
          unfold payOf
          rw [List.length_map]
        refine ⟨a, _, rfl, SqT.of e3, rfl, _, _, rfl, _, _, rfl, _, _, rfl, rfl, ?_⟩
        refine ⟨_, rfl, .inl ⟨rfl, _, SqL.of g3⟩, ?_⟩
        refine ⟨_, rfl, _, rfl, _, rfl, _, rfl, line16 (by show 4 ≤ 16000000; decide), fun b hb => ?_⟩
        have s5 := Same.upd (H := H3) (o := HO.tup [V.str o, V.str p.1, V.str p.2.1, V.int p.2.2]) hb
        have hb5 := upd_same (H := H3) (a := b) (o := HO.tup [V.str o, V.str p.1, V.str p.2.1, V.int p.2.2])
        have g15 := s5 _ _ g1
        have g25 := s5 _ _ g2
        have g35 := s5 _ _ g3
        have tz5 := tz3.same s5
        have tw5 := tw.same s5
        have s45 := Same.tr s4 s5
        generalize hH5 : upd H3 b (HO.tup [V.str o, V.str p.1, V.str p.2.1, V.int p.2.2]) = H5 at s5 hb5 g15 g25 g35 tz5 tw5 s45 ⊢
        have kt : ∀ a rr, H5 a = some (.tup rr) → upd H5 l (.lst (ws ++ [V.ref b])) a = some (.tup rr) := fun a rr z => (upd_ne (ne_of z g35 (by intro z; cases z))).trans z
        refine ⟨l, ws, _, rfl, rfl, g35, lt_line (by omega), _, _, _, ws ++ [.ref b], rfl, fun c u z => ?_, (upd_ne nrl).trans g15, (upd_ne nql).trans g25, tz5.mono kt, upd_same, ?_⟩
        · rw [upd_ne (ne_of_none z hl)]
          exact s45 _ _ z
        · rw [take_snoc hp2, ← List.append_assoc, List.map_append]
          exact (tw5.snoc hb5).mono kt
      · rintro σ H' ⟨v3, v4, v5, ws, rfl, s4, g1, g2, tz3, g3, tw⟩
        refine ⟨_, _, _, _, ws, rfl, s4, g1, g3, ?_⟩
        have e9 : (payOf X o).take zs.length = payOf X o := by
          have : (payOf X o).length = zs.length := by
            rw [zl, zl2]
            unfold payOf
            rw [List.length_map]
          rw [← this, List.take_length]
        rw [e9] at tw
        rw [tk]
        exact tw
    · rintro σ H' ⟨v2, v3, v4, v5, ys, rfl, s2, h1, h2, tp⟩
      rw [List.length_map, List.take_length] at tp
      exact ⟨_, rfl, k l H' ys s2 hl h2 tp⟩
end LH
namespace LH
open PySem PySem.Spec PyProof.Rows L2
def paidTo : List (Str × Str × Str × Int) → Str → Int
  | [], _ => 0
  | r :: rs, o => (if r.2.2.1 = o then r.2.2.2 else 0) + paidTo rs o
theorem paid_snoc (r : Str × Str × Str × Int) (o : Str) : ∀ rs, paidTo (rs ++ [r]) o = paidTo rs o + (if r.2.2.1 = o then r.2.2.2 else 0)
  | [] => by
    show (if r.2.2.1 = o then r.2.2.2 else 0) + 0 = 0 + _
    omega
  | a :: rs => by
    have ih := paid_snoc r o rs
    show (if a.2.2.1 = o then a.2.2.2 else 0) + paidTo (rs ++ [r]) o = (if a.2.2.1 = o then a.2.2.2 else 0) + paidTo rs o + _
    omega
/-- all payments are right -/
structure Right (X : WS) : Prop where
  us : ∀ r ∈ payRows X, users X r.2.1 = [(r.2.2.1, some r.1, r.2.2.2)]
  nd : ((payRows X).map (·.2.1)).Nodup
  nm : ∀ r ∈ payRows X, r.1 ∈ names4 ∧ r.2.2.1 ∈ names4
  cr : ∀ o ∈ names4, 0 ≤ (X.S o).cr ∧ (X.S o).cr ≤ paidTo (payRows X) o
def kv4 (f : Str → Int) : List (Key × V) := names4.map fun o => (Sum.inr o, V.int (f o))
theorem kv4_val (f : Str → Int) {o : Str} (h : o ∈ names4) : valV (kv4 f) (Sum.inr o : Key) = some (.int (f o)) := valV_map (fun o => V.int (f o)) names4 h
theorem kv4_put (f : Str → Int) {o : Str} (h : o ∈ names4) (v : Int) : putK (kv4 f) (Sum.inr o) (.int v) = kv4 fun p => if p = o then v else f p := by
  unfold putK
  rw [if_pos]
  · unfold kv4
    rw [List.map_map]
    refine List.map_congr_left fun p _ => ?_
    show (if (Sum.inr p : Key) = Sum.inr o then ((Sum.inr p : Key), V.int v) else (Sum.inr p, V.int (f p))) = (Sum.inr p, V.int (if p = o then v else f p))
    by_cases e : p = o
    · rw [if_pos (by rw [e]), if_pos e]
    · rw [if_neg (fun z => e (Sum.inr.inj z)), if_neg e]
  · rw [List.any_eq_true]
    exact ⟨(Sum.inr o, .int (f o)), List.mem_map.mpr ⟨o, h, rfl⟩, decide_eq_true rfl⟩
theorem kv4_len (f : Str → Int) : (kv4 f).length = 4 := rfl
def spRight (K : PySem.W.Frag) : Sp := fun vs H Q _ => ∃ (W : WLay) (X : WS), vs = [.ref W.wa] ∧ WAt K H W X ∧ (∀ o ∈ names4, Small (X.S o)) ∧ Right X ∧ ∀ H', Same H H' → Q (.bl true) H'
/-- lists of rows of users as data -/
def uDat (u : Str × Option Str × Int) : PyData := .tuple ((uEnc u).map flatd)
theorem uEnc_flat (u : Str × Option Str × Int) : ∀ v ∈ uEnc u, flatV v := by
  obtain ⟨a, b, c⟩ := u
  intro v hv
  simp only [uEnc, List.mem_cons, List.not_mem_nil, or_false] at hv
  rcases hv with rfl | rfl | rfl
  · trivial
  · cases b <;> trivial
  · trivial
theorem u_dp {K : PySem.W.Frag} {H : Hp} : ∀ {vs : List V} {us : List (Str × Option Str × Int)}, Tups H vs (us.map uEnc) → DpAll K H vs (us.map uDat)
  | [], [], _ => .nil
  | v :: vs, u :: us, h => by
    obtain ⟨⟨a, rfl, q⟩, t⟩ := h
    exact .cons (.tup (SqT.of q) (DpAll.flat (uEnc_flat u))) (u_dp t)
  | [], _ :: _, h => False.elim h
  | _ :: _, [], h => False.elim h
theorem one_lay {o h : Str} {q : Int} (ho : Tk o) (hh : Tk h) : SeqAt.shaped (.list [uDat (o, some h, q)]) = true ∧ PyData.eqv (.list [uDat (o, some h, q)]) (.list [uDat (o, some h, q)]) = true := by
  have l1 : PyData.canLay0 (.list [uDat (o, some h, q)]) = true := by
    show ((PyData.strOk o && (PyData.strOk h && (true && true))) && true) = true
    rw [ho.2, hh.2]
    rfl
  have l2 : PyData.depth (.list [uDat (o, some h, q)]) = 2 := rfl
  refine ⟨?_, PySem.SeqAt.eqv_refl _ l1⟩
  unfold SeqAt.shaped
  rw [l1, l2]
  rfl
theorem sc_law_right : FnScope ["_law_world", "_law_rows", "_law_paid", "_law_ids", "_law_name", "_law_home", "_law_thing", "_law_office", "_law_quantity"] ["_law_world"] (defScope s_law_right) := ⟨rfl, rfl, rfl, by decide +kernel, rfl, by decide +kernel, by decide +kernel⟩
abbrev Ok_law_right (P : Program) (w : World) (K : PySem.W.Frag) (mg : Str → Option Value) (base : Heap) : Prop := Has P w K mg base CX0 4 (f_law_right K) ["_law_world"] (spRight K)
theorem ok_law_right {P : Program} {w : World} {K : PySem.W.Frag} {mg : Str → Option Value} {base : Heap} (T : Txt K mg) (h_law_payments : Ok_law_payments P w K mg base) (h_law_users : Ok_law_users P w K mg base) (h_law_names : Ok_law_names P w K mg base) (h_Office_credit : Ok_Office_credit P w K mg base) (h_World_office : Ok_World_office P w K mg base) : Ok_law_right P w K mg base := by
  obtain ⟨fd, F⟩ := T.d_law_right
  obtain ⟨fd_law_payments, G_law_payments, b_law_payments⟩ := h_law_payments
  have k_law_payments : PySem.W.keepIn K (.ref (f_law_payments K)) = true := by
    obtain ⟨_, q⟩ := T.d_law_payments
    exact q.kp
  obtain ⟨fd_law_users, G_law_users, b_law_users⟩ := h_law_users
  have k_law_users : PySem.W.keepIn K (.ref (f_law_users K)) = true := by
    obtain ⟨_, q⟩ := T.d_law_users
    exact q.kp
  obtain ⟨fd_law_names, G_law_names, b_law_names⟩ := h_law_names
  have k_law_names : PySem.W.keepIn K (.ref (f_law_names K)) = true := by
    obtain ⟨_, q⟩ := T.d_law_names
    exact q.kp
  obtain ⟨fd_Office_credit, G_Office_credit, b_Office_credit⟩ := h_Office_credit
  obtain ⟨fd_World_office, G_World_office, b_World_office⟩ := h_World_office
  refine ⟨fd, FunD.ok (CX := CX0) F sc_law_right (fun vs H Q E h => ?_) (fun cdv A outer s H vs Q E hr h => ?_), FunD.bindsN F fun _ _ _ _ _ _ us hl => match us, hl with | [_], _ => rfl⟩
  · obtain ⟨W, X, rfl, _⟩ := h
    rfl
  · have hu := hu_of hr
    refine ⟨_, PSs.nox (pss_cons (ps_set (i := 1) sc_law_right.nd rfl (Or.inl rfl) (pe_call G_law_payments (hr.mono (by decide)) rfl T.g_law_payments k_law_payments b_law_payments .nil pass0 (pa_cons (pv 0) pa_nil)))
      (pss_cons (ps_set (i := 2) sc_law_right.nd rfl (Or.inl rfl) (pe_disp (pps_cons pe_str pe_int (pps_cons pe_str pe_int (pps_cons pe_str pe_int (pps_cons pe_str pe_int pps_nil)))) (by rfl) (by rfl) (fun z => by cases z) (by decide)))
      (pss_cons (ps_set (i := 3) sc_law_right.nd rfl (Or.inl rfl) (pe_lst pa_nil))
      (pss_cons (ps_for PassesOwn.never rfl (pi_list (pv 1)) (pg_tup rfl (pgs_cons (pg_name (i := 5) sc_law_right.nd rfl (Or.inl rfl)) (pgs_cons (pg_name (i := 6) sc_law_right.nd rfl (Or.inl rfl)) (pgs_cons (pg_name (i := 7) sc_law_right.nd rfl (Or.inl rfl)) (pgs_cons (pg_name (i := 8) sc_law_right.nd rfl (Or.inl rfl)) pgs_nil))))) (pss_cons (ps_if (PW.pt (pw_or (pt_cmpR (op_neD hr.units) (pe_call G_law_users (hr.mono (by decide)) rfl T.g_law_users k_law_users b_law_users .nil pass0 (pa_cons (pv 0) (pa_cons (pv 6) pa_nil))) (pe_lst (pa_cons (pe_tup (pa_cons (pv 7) (pa_cons (pv 5) (pa_cons (pv 8) pa_nil)))) pa_nil)) (nomark _)) (pw_or1 (pt_cmpR op_in_seq (pv 6) (pv 3) (by rfl))))) (pss_one (ps_ret pe_bl)) pss_nil)
      (pss_cons (ps_expr (pe_bm PySem.F.plainAttrs_list PySem.F.slot_list_append PySem.F.type_list_append mt_append (pv 3) (pa_cons (pv 6) pa_nil)))
      (pss_one (ps_dput hu (pv 2) (pv 7) (pe_op op_add (pe_dget hu (pv 2) (pv 7) (fun _ _ => rfl)) (pv 8)) rfl)))))
      (pss_cons (ps_for PassesOwn.never rfl (pi_list (pe_call0 G_law_names (hr.mono (by decide)) rfl T.g_law_names k_law_names b_law_names .nil pass0)) (pg_name (i := 4) sc_law_right.nd rfl (Or.inl rfl)) (pss_one (ps_if (PW.pt (pw_or (pt_cmpR op_gt (pe_meth0 (pe_meth (pv 0) T.cl_World T.m_World_office G_World_office (hr.mono (by decide)) b_World_office .nil pass0 (pa_cons (pv 4) pa_nil)) T.cl_Office T.m_Office_credit G_Office_credit (hr.mono (by decide)) b_Office_credit .nil pass0) (pe_dget hu (pv 2) (pv 4) (fun _ _ => rfl)) (nomark _)) (pw_or1 (pt_cmpR op_lt (pe_meth0 (pe_meth (pv 0) T.cl_World T.m_World_office G_World_office (hr.mono (by decide)) b_World_office .nil pass0 (pa_cons (pv 4) pa_nil)) T.cl_Office T.m_Office_credit G_Office_credit (hr.mono (by decide)) b_Office_credit .nil pass0) pe_int (nomark _))))) (pss_one (ps_ret pe_bl)) pss_nil)))
      (pss_one (ps_ret pe_bl))))))), ?_⟩
    obtain ⟨W, X, rfl, A1, sm, rt, k⟩ := h
    refine ⟨_, rfl, W, X, rfl, A1, sm, fun r H1 ys s1 hr hy tp => ?_⟩
    have ylen := tp.len
    rw [List.length_map] at ylen
    have plen := pay_len sm names4 fun p hp => hp
    refine fun d hd => ⟨upd_same, kv4 (fun _ => 0), rfl, by decide, ?_⟩
    have em : mergeK [] (kv4 fun _ => 0) = kv4 fun _ => 0 := by kernel_rfl
    rw [em, upd_upd]
    have dH : H d = none := Same.none s1 hd
    have s2 := Same.upd (H := H1) (o := HO.dK (kv4 fun _ => 0)) hd
    have hd2 := upd_same (H := H1) (a := d) (o := HO.dK (kv4 fun _ => 0))
    have hy2 := s2 _ _ hy
    have tp2 := tp.same s2
    have s12 := Same.tr s1 s2
    generalize hH2 : upd H1 d (.dK (kv4 fun _ => 0)) = H2 at s2 hd2 hy2 tp2 s12 ⊢
    refine ⟨Nat.zero_le _, fun l hl => ?_⟩
    have lH : H l = none := Same.none s12 hl
    have s3 := Same.upd (H := H2) (o := HO.lst []) hl
    have hl3 := upd_same (H := H2) (a := l) (o := HO.lst [])
    have hd3 := s3 _ _ hd2
    have hy3 := s3 _ _ hy2
    have tp3 := tp2.same s3
    have s13 := Same.tr s12 s3
    have ndl : d ≠ l := ne_of_none hd2 hl
    have nrl : r ≠ l := ne_of_none hy2 hl
    have nrd : r ≠ d := ne_of_none hy hd
    generalize hH3 : upd H2 l (.lst []) = H3 at s3 hl3 hd3 hy3 tp3 s13 ⊢
    obtain ⟨rows, erow⟩ : ∃ rows, rows = payRows X := ⟨_, rfl⟩
    have rlen : rows.length ≤ 3200000 := by
      rw [erow]
      exact Nat.le_trans plen (by decide)
    refine ⟨_, rfl, r, rfl, ⟨_, SqL.of hy3⟩, for_list (K := K) (a := r) (xs := ys)
      (fun i σ H' => ∃ v5 v6 v7 v8, σ = [some (.ref W.wa), some (.ref r), some (.ref d), some (.ref l), none, v5, v6, v7, v8] ∧ Same H H' ∧ H' r = some (.lst ys) ∧ Tups H' ys ((payRows X).map rEnc) ∧
        H' d = some (.dK (kv4 fun o => paidTo (rows.take i) o)) ∧ H' l = some (.lst (((rows.take i).map (·.2.1)).map V.str))) ⟨_, _, _, _, rfl, s13, hy3, tp3, hd3, hl3⟩ ?_ ?_ ?_⟩
    · rintro i σ H' _ ⟨v5, v6, v7, v8, rfl, s4, g1, _⟩
      exact SqL.of g1
    · rintro i x σ H' hx ⟨v5, v6, v7, v8, rfl, s4, g1, tq, g2, g3⟩
      obtain ⟨a, row, e1, rfl, e3⟩ := tq.get hx
      rw [List.getElem?_map] at e1
      obtain ⟨⟨hm, t, o, q⟩, hp, rfl⟩ := Option.map_eq_some_iff.mp e1
      have hpm := List.mem_of_getElem? hp
      have hp2 : rows[i]? = some (hm, t, o, q) := by rw [erow]; exact hp
      have hus : users X t = [(o, some hm, q)] := rt.us _ hpm
      obtain ⟨nmh, nmo⟩ := rt.nm _ hpm
      have nmo : o ∈ names4 := nmo
      have il := (List.getElem?_eq_some_iff.mp hp2).1
      refine ⟨a, _, rfl, SqT.of e3, rfl, _, _, rfl, _, _, rfl, _, _, rfl, _, _, rfl, rfl, ?_⟩
      have A2 := A1.same s4
      refine ⟨_, rfl, _, rfl, W, X, t, rfl, A2, fun u H5 us s5 hu hu5 tu => ?_⟩
      rw [hus] at tu
      refine ⟨_, rfl, _, rfl, _, rfl, line16 (by show 3 ≤ 16000000; decide), fun p hp => ?_⟩
      have s6 := Same.upd (H := H5) (o := HO.tup [V.str o, V.str hm, V.int q]) hp
      have hp6 := upd_same (H := H5) (a := p) (o := HO.tup [V.str o, V.str hm, V.int q])
      have hu6 := s6 _ _ hu5
      have tu6 := tu.same s6
      have s46 := Same.tr s5 s6
      generalize hH6 : upd H5 p (HO.tup [V.str o, V.str hm, V.int q]) = H6 at s6 hp6 hu6 tu6 s46 ⊢
      refine ⟨line16 (by show 1 ≤ 16000000; decide), fun z hz => ?_⟩
      have s7 := Same.upd (H := H6) (o := HO.lst [V.ref p]) hz
      have hz7 := upd_same (H := H6) (a := z) (o := HO.lst [V.ref p])
      have hp7 := s7 _ _ hp6
      have hu7 := s7 _ _ hu6
      have tu7 := tu6.same s7
      have s47 := Same.tr s46 s7
      generalize hH7 : upd H6 z (HO.lst [V.ref p]) = H7 at s7 hz7 hp7 hu7 tu7 s47 ⊢
      obtain ⟨y1, y2⟩ := one_lay (q := q) (name_tk nmo) (name_tk nmh)
      have dp1 : Dp K H7 (.ref u) (.list [uDat (o, some hm, q)]) := .lst (SqL.of hu7) (u_dp tu7)
      have dp2 : Dp K H7 (.ref z) (.list [uDat (o, some hm, q)]) := .lst (SqL.of hz7) (.cons (.tup (SqT.of hp7) (DpAll.flat (uEnc_flat (o, some hm, q)))) .nil)
      refine ⟨_, _, dp1, dp2, y1, y1, _, rfl, ?_⟩
      rw [y2]
      have g17 := s47 _ _ g1
      have g27 := s47 _ _ g2
      have g37 := s47 _ _ g3
      have tq7 := tq.same s47
      have s8 := Same.tr s4 s47
      refine ifF rfl ⟨_, rfl, _, rfl, l, _, rfl, .inl (SqL.of g37), rfl, flat_str _, _, rfl, ?_⟩
      rw [in_str]
      have nin : t ∉ (rows.take i).map (·.2.1) := by
        have nd := rt.nd
        rw [← erow] at nd
        have h2 : ((rows.map (·.2.1)).take (i + 1)).Nodup := nd.sublist (List.take_sublist _ _)
        have h3 : (rows.map (·.2.1))[i]? = some t := by
          rw [List.getElem?_map, hp2]
          rfl
        rw [take_snoc h3, ← List.map_take] at h2
        intro m
        exact (List.nodup_append.mp h2).2.2 t m t (List.mem_singleton.mpr rfl) rfl
      refine ifF (decide_eq_false nin) ?_
      refine ⟨_, rfl, .inl ⟨rfl, _, SqL.of g37⟩, _, rfl, l, _, _, rfl, rfl, g37, ?_, ?_⟩
      · rw [List.length_map, List.length_map, List.length_take]
        exact lt_line (by omega)
      have g28 := (upd_ne (H := H7) (o := .lst (((rows.take i).map (·.2.1)).map V.str ++ [V.str t])) ndl).trans g27
      have gv := kv4_val (fun o => paidTo (rows.take i) o) nmo
      refine ⟨_, rfl, _, rfl, d, _, rfl, (show DGet _ d (.str o) (some (.int (paidTo (rows.take i) o))) from by rw [← gv]; exact DGet.k (k := Sum.inr o) g28), _, rfl, _, _, rfl, rfl, ?_⟩
      refine ⟨_, rfl, _, rfl, d, _, rfl, DPut.k (k := Sum.inr o) g28 (by rw [kv4_len]; exact line7 (by decide)), ?_⟩
      rw [kv4_put _ nmo]
      have kt : ∀ b rr, H7 b = some (.tup rr) → upd (upd H7 l (.lst (((rows.take i).map (·.2.1)).map V.str ++ [V.str t]))) d (.dK (kv4 fun p => if p = o then paidTo (rows.take i) o + q else paidTo (rows.take i) p)) b = some (.tup rr) := fun b rr w => by
        rw [upd_ne (ne_of w g27 (by intro z; cases z)), upd_ne (ne_of w g37 (by intro z; cases z))]
        exact w
      refine ⟨_, _, _, _, rfl, fun b x w => ?_, ?_, tq7.mono kt, ?_, ?_⟩
      · rw [upd_ne (ne_of_none w dH), upd_ne (ne_of_none w lH)]
        exact s8 _ _ w
      · rw [upd_ne nrd, upd_ne nrl]
        exact g17
      · rw [upd_same]
        congr 3
        funext p
        rw [take_snoc hp2, paid_snoc]
        by_cases e : p = o
        · rw [if_pos e, e]
          simp
        · rw [if_neg e]
          have : ¬ o = p := fun z => e z.symm
          simp [this]
      · rw [upd_ne ndl.symm, upd_same, take_snoc hp2]
        simp
    · rintro σ H' ⟨v5, v6, v7, v8, rfl, s4, g1, tq, g2, g3⟩
      have et : rows.take ys.length = rows := by
        rw [ylen, ← erow, List.take_length]
      rw [et] at g2
      refine ⟨rfl, fun w hw => ?_⟩
      have s5 := Same.upd (H := H') (o := HO.lst (names4.map V.str)) hw
      have hw5 := upd_same (H := H') (a := w) (o := HO.lst (names4.map V.str))
      have g25 := s5 _ _ g2
      have s45 := Same.tr s4 s5
      generalize hH5 : upd H' w (.lst (names4.map V.str)) = H5 at s5 hw5 g25 s45 ⊢
      have A2 := A1.same s45
      obtain ⟨dw, hww⟩ := A2.w
      refine ⟨w, rfl, ⟨_, SqL.of hw5⟩, for_list (K := K) (a := w) (xs := names4.map V.str)
        (fun i σ H' => ∃ v4, σ = [some (.ref W.wa), some (.ref r), some (.ref d), some (.ref l), v4, v5, v6, v7, v8] ∧ H' = H5) ⟨_, rfl, rfl⟩ ?_ ?_ ?_⟩
      · rintro i σ H' _ ⟨v4, rfl, rfl⟩
        exact SqL.of hw5
      · rintro i x σ H' hx ⟨v4, rfl, rfl⟩
        obtain ⟨o, ho1, rfl⟩ := list_map_get hx
        have ho := List.mem_of_getElem? ho1
        obtain ⟨d1, hof⟩ := (A2.off o ho).of
        obtain ⟨c0, c1⟩ := rt.cr o ho
        rw [← erow] at c1
        have gv := kv4_val (fun o => paidTo rows o) ho
        refine ⟨_, rfl, W.wa, dw, _, rfl, hww, ln_World_office _ _, _, rfl, W, X, o, rfl, A2, ho, _, d1, _, rfl, hof, ln_Office_credit _ _ _, W.Ls o, X.S o, rfl, A2.off o ho, ?_⟩
        refine ⟨_, rfl, _, rfl, d, _, rfl, (show DGet _ d (.str o) (some (.int (paidTo rows o))) from by rw [← gv]; exact DGet.k (k := Sum.inr o) g25), _, _, rfl, rfl, _, rfl, ?_⟩
        refine ifF (decide_eq_false (by omega)) ?_
        refine ⟨_, rfl, W.wa, dw, _, rfl, hww, ln_World_office _ _, _, rfl, W, X, o, rfl, A2, ho, _, d1, _, rfl, hof, ln_Office_credit _ _ _, W.Ls o, X.S o, rfl, A2.off o ho, _, _, rfl, rfl, _, rfl, ?_⟩
        exact ifF (decide_eq_false (by omega)) ⟨_, rfl, rfl⟩
      · rintro σ H' ⟨v4, rfl, rfl⟩
        exact k _ s45
end LH
namespace LH
open PySem PySem.Spec PyProof.Rows L2
/-! ### one step of the law -/
inductive LStep (X : WS) (ts : List Str) : WS → List Str → Prop
  | reg (o : Str) (q : Int) : o ∈ names4 → 1 ≤ q → q ≤ 30 → LStep X ts (X.put o ((X.S o).lnup.begin_ (idf o (X.S o).nx) (some o) q)) [idf o (X.S o).nx]
  | dlv (i : Nat) (l : Ltr) (S' : OSt) : X.ns[i]? = some l → Noted (X.S l.rcv) (lineOf l) S' → LStep X ts (dlv X i l S') []
  | drop (i : Nat) : LStep X ts (X.drop i) []
  | dup (i : Nat) (l : Ltr) : X.ns[i]? = some l → LStep X ts (X.send [l]) []
  | give (o t r : Str) (e : Ent) : o ∈ names4 → t ∈ ts → r ∈ names4 → r ≠ o → (X.S o).get t = some e → e.st = .held → e.cb = false → LStep X ts ((X.put o ((X.S o).lnup.give_ t (e.ep + 1) r)).send (letOf o t (giveF (e.ep + 1) r e))) []
  | split (o t : Str) (e : Ent) (ns : List Int) : o ∈ names4 → t ∈ ts → (X.S o).get t = some e → e.st = .held → e.cb = false → (∀ n ∈ ns, 1 ≤ n ∧ n ≤ 1000000000) → 2 ≤ ns.length → ns.length ≤ 3 → ns.sum = e.qty →
      LStep X ts (X.put o ((X.S o).lnup.split_ t e.home (psOf o (X.S o).nx ns))) (idsL o (X.S o).nx ns.length)
  | join (o t0 : Str) (r : List Str) (e0 : Ent) : o ∈ names4 → (X.S o).get t0 = some e0 → (t0 :: r).Nodup → (t0 :: r).length ≤ 3 → (∀ t ∈ t0 :: r, ∃ e, (X.S o).get t = some e ∧ e.st = .held ∧ e.cb = false ∧ e.home = e0.home) → ((t0 :: r).map (X.S o).qof).sum ≤ 1000000000 →
      LStep X ts (X.put o ((X.S o).lnup.join_ (idf o (X.S o).nx) e0.home (t0 :: r))) [idf o (X.S o).nx]
  | use (o t : Str) (e : Ent) : o ∈ names4 → t ∈ ts → (X.S o).get t = some e → e.st = .held → e.cb = false → LStep X ts ((X.put o ((X.S o).lnup.mod t useF)).send (letOf o t (useF e))) []
  | rcl (o t : Str) (e : Ent) (S' : OSt) : o ∈ names4 → t ∈ ts → (X.S o).get t = some e → e.st ≠ .unk → e.cb = false → App (X.S o).lnup (.rcl t) S' → LStep X ts ((X.put o S').send (fur (X.S o) S')) []
  | tick (o : Str) : o ∈ names4 → LStep X ts (X.send (X.S o).pend) []
def Told (told : List V) (new : List Str) : Prop := new.length ≤ 3 ∧
  ((told = [] ∧ new = []) ∨ (∃ a b, told = .str "split" :: a :: b :: new.map V.str) ∨ (∃ (w : Str) (a : V) (n : Str) (rest : List V), (w = "register" ∨ w = "join") ∧ told = .str w :: a :: .str n :: rest ∧ new = [n]) ∨
    ∃ (w : Str) (rest : List V), (w = "give" ∨ w = "use" ∨ w = "recall") ∧ told = .str w :: rest ∧ new = [])
theorem tIf_D {C : TT} {a : TS} {D : Ends} {σ : L2.St} {H : Hp} (h : ∀ D', D' = D → tIfS C a tNext D' σ H) : tIfS C a tNext D σ H := h D rfl
theorem seq_D {C : TT} {a rest : TS} {D : Ends} {σ : L2.St} {H : Hp} (h : ∀ D', D' = { D with nx := rest D } → tIfS C a tNext D' σ H) : tSeq (tIfS C a tNext) rest D σ H := h _ rfl
theorem gName_of {i : Nat} {x : V} {σ : L2.St} {H : Hp} {Q : L2.St → Hp → Prop} (h : Q (σ.set i (some x)) H) : gName i x σ H Q := h
theorem name_at (j : Int) : ∃ o ∈ names4, atI (names4.map V.str) (j % 4) = some (.str o) := by
  have b0 := Int.emod_nonneg j (show (4 : Int) ≠ 0 by decide)
  have b1 := Int.emod_lt_of_pos j (show (0 : Int) < 4 by decide)
  obtain ⟨n, hn⟩ := Int.eq_ofNat_of_zero_le b0
  have hn4 : n < 4 := by omega
  have h4 : n < names4.length := hn4
  refine ⟨names4[n], List.getElem_mem h4, ?_⟩
  rw [hn]
  exact atI_nat (by rw [List.getElem?_map, List.getElem?_eq_getElem h4]; rfl)
def spLStep (K : PySem.W.Frag) : Sp := fun vs H Q E => ∃ (W : WLay) (X : WS) (z : Addr) (ts : List Str) (c : Int), vs = [.ref W.wa, .ref z, .int c] ∧ WAt K H W X ∧ Sml X 13000000 ∧ H z = some (.lst (ts.map V.str)) ∧ Errs K H E ∧
  ∀ H' W' X' r told new, LStep X ts X' new → Told told new → WStp K H W X H' W' X' → H' r = some (.lst told) → Q (.ref r) H'
theorem sc_law_step : FnScope ["_law_world", "_law_things", "_law_cell", "_law_step_here", "_law_more", "_law_thing", "_law_name", "_law_receiver", "_law_parts"] ["_law_world", "_law_things", "_law_cell"] (defScope s_law_step) := ⟨rfl, rfl, rfl, by decide +kernel, rfl, by decide +kernel, by decide +kernel⟩
abbrev Ok_law_step (P : Program) (w : World) (K : PySem.W.Frag) (mg : Str → Option Value) (base : Heap) : Prop := Has P w K mg base (L2.CX P w) 12 (f_law_step K) ["_law_world", "_law_things", "_law_cell"] (spLStep K)
theorem ok_law_step {P : Program} {w : World} {K : PySem.W.Frag} {mg : Str → Option Value} {base : Heap} (T : Txt K mg) (h_World_create : Ok_World_create P w K mg base) (h_law_names : Ok_law_names P w K mg base) (h_law_net : Ok_law_net P w K mg base) (h_law_holder : Ok_law_holder P w K mg base) (h_World_give : Ok_World_give P w K mg base) (h_World_split : Ok_World_split P w K mg base) (h_law_sizes : Ok_law_sizes P w K mg base) (h_law_joined : Ok_law_joined P w K mg base) (h_World_join : Ok_World_join P w K mg base) (h_World_use : Ok_World_use P w K mg base) (h_World_recall : Ok_World_recall P w K mg base) (h_World_tick : Ok_World_tick P w K mg base) : Ok_law_step P w K mg base := by
  obtain ⟨fd, F⟩ := T.d_law_step
  obtain ⟨fd_World_create, G_World_create, b_World_create⟩ := h_World_create
  obtain ⟨fd_law_names, G_law_names, b_law_names⟩ := h_law_names
  have k_law_names : PySem.W.keepIn K (.ref (f_law_names K)) = true := by
    obtain ⟨_, q⟩ := T.d_law_names
    exact q.kp
  obtain ⟨fd_law_net, G_law_net, b_law_net⟩ := h_law_net
  have k_law_net : PySem.W.keepIn K (.ref (f_law_net K)) = true := by
    obtain ⟨_, q⟩ := T.d_law_net
    exact q.kp
  obtain ⟨fd_law_holder, G_law_holder, b_law_holder⟩ := h_law_holder
  have k_law_holder : PySem.W.keepIn K (.ref (f_law_holder K)) = true := by
    obtain ⟨_, q⟩ := T.d_law_holder
    exact q.kp
  obtain ⟨fd_World_give, G_World_give, b_World_give⟩ := h_World_give
  obtain ⟨fd_World_split, G_World_split, b_World_split⟩ := h_World_split
  obtain ⟨fd_law_sizes, G_law_sizes, b_law_sizes⟩ := h_law_sizes
  have k_law_sizes : PySem.W.keepIn K (.ref (f_law_sizes K)) = true := by
    obtain ⟨_, q⟩ := T.d_law_sizes
    exact q.kp
  obtain ⟨fd_law_joined, G_law_joined, b_law_joined⟩ := h_law_joined
  have k_law_joined : PySem.W.keepIn K (.ref (f_law_joined K)) = true := by
    obtain ⟨_, q⟩ := T.d_law_joined
    exact q.kp
  obtain ⟨fd_World_join, G_World_join, b_World_join⟩ := h_World_join
  obtain ⟨fd_World_use, G_World_use, b_World_use⟩ := h_World_use
  obtain ⟨fd_World_recall, G_World_recall, b_World_recall⟩ := h_World_recall
  obtain ⟨fd_World_tick, G_World_tick, b_World_tick⟩ := h_World_tick
  refine ⟨fd, FunD.ok (CX := (L2.CX P w)) F sc_law_step (fun vs H Q E h => ?_) (fun cdv A outer s H vs Q E hr h => ?_), FunD.bindsN F fun _ _ _ _ _ _ us hl => match us, hl with | [_, _, _], _ => rfl⟩
  · obtain ⟨W, X, z, ts, c, rfl, _⟩ := h
    rfl
  · have hu := hu_of hr
    refine ⟨_, (pss_cons (ps_set (i := 3) sc_law_step.nd rfl (Or.inl rfl) (pe_op op_mod (pe_callTy call_int1 (by rfl) T.b_int (by decide +kernel) (pa_cons (pv 2) pa_nil)) pe_int))
      (pss_cons (ps_set (i := 4) sc_law_step.nd rfl (Or.inl rfl) (pe_op op_fdiv (pe_callTy call_int1 (by rfl) T.b_int (by decide +kernel) (pa_cons (pv 2) pa_nil)) pe_int))
      (pss_cons (ps_if (PW.pt (pw_or (pt_cmpR op_lt (pv 3) pe_int (nomark _)) (pw_or1 (pt_not (pt_truth (pv 1) (by intro _; rfl)))))) (pss_one (ps_ret (pe_lst (pa_cons pe_str (pa_cons (pe_ix ix_list (pe_call0 G_law_names (hr.mono (by decide)) rfl T.g_law_names k_law_names b_law_names .nil pass0) (pe_op op_mod (pv 4) pe_int) (fun _ _ => rfl)) (pa_cons (pe_meth (pv 0) T.cl_World T.m_World_create G_World_create (hr.mono (by decide)) b_World_create .nil (passes_call (takes_of rfl rfl rfl rfl) (fun _ _ _ _ z => z)) (pa_cons (pe_ix ix_list (pe_call0 G_law_names (hr.mono (by decide)) rfl T.g_law_names k_law_names b_law_names .nil pass0) (pe_op op_mod (pv 4) pe_int) (fun _ _ => rfl)) (pa_cons (pe_op op_add pe_int (pe_op op_mod (pe_op op_fdiv (pv 4) pe_int) pe_int)) pa_nil))) pa_nil)))))) pss_nil)
      (pss_cons (ps_if (pt_cmpR op_gt (pv 3) pe_int (nomark _)) (pss_one (ps_ret (pe_call G_law_net (hr.mono (by decide)) rfl T.g_law_net k_law_net b_law_net .nil (passes_call (takes_of rfl rfl rfl rfl) (fun _ _ _ _ z => z)) (pa_cons (pv 0) (pa_cons (pv 3) (pa_cons (pv 4) pa_nil)))))) pss_nil)
      (pss_cons (ps_set (i := 5) sc_law_step.nd rfl (Or.inl rfl) (pe_ix ix_list (pv 1) (pe_op op_mod (pv 4) (pe_callB call_len_seq (by rfl) T.b_len PySem.boot_len (pa_cons (pv 1) pa_nil))) (fun _ _ => rfl)))
      (pss_cons (ps_set (i := 6) sc_law_step.nd rfl (Or.inl rfl) (pe_call G_law_holder (hr.mono (by decide)) rfl T.g_law_holder k_law_holder b_law_holder .nil pass0 (pa_cons (pv 0) (pa_cons (pv 5) pa_nil))))
      (pss_cons (ps_if (pt_cmpR op_eq (pe_op op_mod (pe_op op_fdiv (pv 4) pe_int) pe_int) pe_int (nomark _)) (pss_one (ps_set (i := 6) sc_law_step.nd rfl (Or.inl rfl) (pe_ix ix_list (pe_call0 G_law_names (hr.mono (by decide)) rfl T.g_law_names k_law_names b_law_names .nil pass0) (pe_op op_mod (pe_op op_fdiv (pv 4) pe_int) pe_int) (fun _ _ => rfl)))) pss_nil)
      (pss_cons (ps_if (pt_cmpR op_lt (pv 3) pe_int (nomark _)) (pss_cons (ps_set (i := 7) sc_law_step.nd rfl (Or.inl rfl) (pe_ix ix_list (pe_call0 G_law_names (hr.mono (by decide)) rfl T.g_law_names k_law_names b_law_names .nil pass0) (pe_op op_mod (pe_op op_fdiv (pv 4) pe_int) pe_int) (fun _ _ => rfl)))
      (pss_cons (ps_expr (pe_meth (pv 0) T.cl_World T.m_World_give G_World_give (hr.mono (by decide)) b_World_give .nil (passes_call (takes_of rfl rfl rfl rfl) (fun _ _ _ _ z => z)) (pa_cons (pv 6) (pa_cons (pv 5) (pa_cons (pv 7) pa_nil)))))
      (pss_one (ps_ret (pe_lst (pa_cons pe_str (pa_cons (pv 6) (pa_cons (pv 5) (pa_cons (pv 7) pa_nil))))))))) pss_nil)
      (pss_cons (ps_if (pt_cmpR op_eq (pv 3) pe_int (nomark _)) (pss_one (ps_ret (pe_op op_cat (pe_lst (pa_cons pe_str (pa_cons (pv 6) (pa_cons (pv 5) pa_nil)))) (pe_meth (pv 0) T.cl_World T.m_World_split G_World_split (hr.mono (by decide)) b_World_split .nil (passes_call (takes_of rfl rfl rfl rfl) (fun _ _ _ _ z => z)) (pa_cons (pv 6) (pa_cons (pv 5) (pa_cons (pe_call G_law_sizes (hr.mono (by decide)) rfl T.g_law_sizes k_law_sizes b_law_sizes .nil pass0 (pa_cons (pv 0) (pa_cons (pv 6) (pa_cons (pv 5) (pa_cons (pe_op op_fdiv (pv 4) pe_int) pa_nil))))) pa_nil))))))) pss_nil)
      (pss_cons (ps_if (pt_cmpR op_eq (pv 3) pe_int (nomark _)) (pss_cons (ps_set (i := 8) sc_law_step.nd rfl (Or.inl rfl) (pe_call G_law_joined (hr.mono (by decide)) rfl T.g_law_joined k_law_joined b_law_joined .nil pass0 (pa_cons (pv 0) (pa_cons (pv 6) (pa_cons (pe_op op_fdiv (pv 4) pe_int) pa_nil)))))
      (pss_one (ps_ret (pe_op op_cat (pe_lst (pa_cons pe_str (pa_cons (pv 6) (pa_cons (pe_meth (pv 0) T.cl_World T.m_World_join G_World_join (hr.mono (by decide)) b_World_join .nil (passes_call (takes_of rfl rfl rfl rfl) (fun _ _ _ _ z => z)) (pa_cons (pv 6) (pa_cons (pv 8) pa_nil))) pa_nil)))) (pv 8))))) pss_nil)
      (pss_cons (ps_if (pt_cmpR op_eq (pv 3) pe_int (nomark _)) (pss_cons (ps_expr (pe_meth (pv 0) T.cl_World T.m_World_use G_World_use (hr.mono (by decide)) b_World_use .nil (passes_call (takes_of rfl rfl rfl rfl) (fun _ _ _ _ z => z)) (pa_cons (pv 6) (pa_cons (pv 5) pa_nil))))
      (pss_one (ps_ret (pe_lst (pa_cons pe_str (pa_cons (pv 6) (pa_cons (pv 5) pa_nil))))))) pss_nil)
      (pss_cons (ps_if (pt_cmpR op_eq (pv 3) pe_int (nomark _)) (pss_cons (ps_expr (pe_meth (pv 0) T.cl_World T.m_World_recall G_World_recall (hr.mono (by decide)) b_World_recall .nil (passes_call (takes_of rfl rfl rfl rfl) (fun _ _ _ _ z => z)) (pa_cons (pv 6) (pa_cons (pv 5) pa_nil))))
      (pss_one (ps_ret (pe_lst (pa_cons pe_str (pa_cons (pv 6) (pa_cons (pv 5) pa_nil))))))) pss_nil)
      (pss_cons (ps_expr (pe_meth (pv 0) T.cl_World T.m_World_tick G_World_tick (hr.mono (by decide)) b_World_tick .nil pass0 (pa_cons (pv 6) pa_nil)))
      (pss_one (ps_ret (pe_lst pa_nil)))))))))))))))), ?_⟩
    obtain ⟨W, X, z, ts, c, rfl, A1, sml, hz, kE, k⟩ := h
    refine ⟨_, rfl, .inl ⟨c, rfl, _, _, rfl, rfl, (by show (0 : Int) < 16; decide), ?_⟩⟩
    refine ⟨_, rfl, .inl ⟨c, rfl, _, _, rfl, rfl, ⟨by decide, by decide⟩, ?_⟩⟩
    have sl := sml.len
    refine ⟨_, rfl, _, _, rfl, rfl, _, rfl, ?_⟩
    by_cases c1 : c % 16 < 2
    · refine ifT (decide_eq_true c1) (iteT ?_)
      obtain ⟨o, ho, hat⟩ := name_at (c / 16)
      refine ⟨rfl, fun r1 hr1 => ⟨_, rfl, _, _, rfl, rfl, (by show (0 : Int) < 4; decide), r1, _, _, _, rfl, rfl, SqL.of upd_same, hat, ?_⟩⟩
      have s1 := Same.upd (H := H) (o := HO.lst (names4.map V.str)) hr1
      generalize hH1 : upd H r1 (.lst (names4.map V.str)) = H1 at s1 ⊢
      obtain ⟨d1, hw1⟩ := (A1.same s1).w
      refine ⟨_, rfl, W.wa, d1, _, rfl, hw1, ln_World_create _ _, ?_⟩
      refine ⟨rfl, fun r2 hr2 => ⟨_, rfl, _, _, rfl, rfl, (by show (0 : Int) < 4; decide), r2, _, _, _, rfl, rfl, SqL.of upd_same, hat, ?_⟩⟩
      have s2 := Same.upd (H := H1) (o := HO.lst (names4.map V.str)) hr2
      have s12 := Same.tr s1 s2
      generalize hH2 : upd H1 r2 (.lst (names4.map V.str)) = H2 at s2 s12 ⊢
      refine ⟨_, rfl, _, _, rfl, rfl, ⟨by decide, by decide⟩, _, _, rfl, rfl, (by show (0 : Int) < 30; decide), _, _, rfl, rfl, ?_⟩
      have q0 := Int.emod_nonneg (c / 16 / 4) (show (30 : Int) ≠ 0 by decide)
      have q1 := Int.emod_lt_of_pos (c / 16 / 4) (show (0 : Int) < 30 by decide)
      refine ⟨W, X, o, 1 + c / 16 / 4 % 30, rfl, A1.same s12, ho, sml.sm o ho, kE.same s12, fun hq H3 W3 s3 => ?_⟩
      refine ⟨line16 (by show 3 ≤ 16000000; decide), fun r hr => ?_⟩
      exact k _ W3 _ r _ [idf o (X.S o).nx] (.reg o (1 + c / 16 / 4 % 30) ho (by omega) (by omega)) ⟨by show 1 ≤ 3; decide, .inr (.inr (.inl ⟨"register", .str o, idf o (X.S o).nx, [], .inl rfl, rfl, rfl⟩))⟩ ((WStp.same A1 s12).trans (s3.trans (WStp.same s3.at_ (Same.upd hr)))) upd_same
    refine ifF (decide_eq_false c1) ?_
    refine ⟨_, rfl, _, .inl ⟨_, SqL.of hz, rfl⟩, ?_⟩
    cases ets : ts with
    | nil =>
      refine ifT rfl ?_
      have k : ∀ H' W' X' r told new, LStep X ts X' new → Told told new → WStp K H W X H' W' X' → H' r = some (.lst told) → Q (.ref r) H' := k
      obtain ⟨o, ho, hat⟩ := name_at (c / 16)
      refine ⟨rfl, fun r1 hr1 => ⟨_, rfl, _, _, rfl, rfl, (by show (0 : Int) < 4; decide), r1, _, _, _, rfl, rfl, SqL.of upd_same, hat, ?_⟩⟩
      have s1 := Same.upd (H := H) (o := HO.lst (names4.map V.str)) hr1
      generalize hH1 : upd H r1 (.lst (names4.map V.str)) = H1 at s1 ⊢
      obtain ⟨d1, hw1⟩ := (A1.same s1).w
      refine ⟨_, rfl, W.wa, d1, _, rfl, hw1, ln_World_create _ _, ?_⟩
      refine ⟨rfl, fun r2 hr2 => ⟨_, rfl, _, _, rfl, rfl, (by show (0 : Int) < 4; decide), r2, _, _, _, rfl, rfl, SqL.of upd_same, hat, ?_⟩⟩
      have s2 := Same.upd (H := H1) (o := HO.lst (names4.map V.str)) hr2
      have s12 := Same.tr s1 s2
      generalize hH2 : upd H1 r2 (.lst (names4.map V.str)) = H2 at s2 s12 ⊢
      refine ⟨_, rfl, _, _, rfl, rfl, ⟨by decide, by decide⟩, _, _, rfl, rfl, (by show (0 : Int) < 30; decide), _, _, rfl, rfl, ?_⟩
      have q0 := Int.emod_nonneg (c / 16 / 4) (show (30 : Int) ≠ 0 by decide)
      have q1 := Int.emod_lt_of_pos (c / 16 / 4) (show (0 : Int) < 30 by decide)
      refine ⟨W, X, o, 1 + c / 16 / 4 % 30, rfl, A1.same s12, ho, sml.sm o ho, kE.same s12, fun hq H3 W3 s3 => ?_⟩
      refine ⟨line16 (by show 3 ≤ 16000000; decide), fun r hr => ?_⟩
      exact k _ W3 _ r _ [idf o (X.S o).nx] (.reg o (1 + c / 16 / 4 % 30) ho (by omega) (by omega)) ⟨by show 1 ≤ 3; decide, .inr (.inr (.inl ⟨"register", .str o, idf o (X.S o).nx, [], .inl rfl, rfl, rfl⟩))⟩ ((WStp.same A1 s12).trans (s3.trans (WStp.same s3.at_ (Same.upd hr)))) upd_same
    | cons t00 ts00 =>
    refine ifF rfl ?_
    have tpos : 0 < ts.length := by
      rw [ets]
      exact Nat.succ_pos _
    refine ⟨_, rfl, _, _, rfl, rfl, _, rfl, ?_⟩
    by_cases c2 : 10 < c % 16
    · refine ifT (decide_eq_true c2) ?_
      refine ⟨_, rfl, _, rfl, _, rfl, W, X, c % 16, c / 16, rfl, A1, ⟨sml.sm, sml.ok, by omega⟩, kE, ?_, ?_, ?_⟩
      · exact fun i l H' W' S' r hl nt s hr => k H' W' _ r [] [] (.dlv i l S' hl nt) ⟨Nat.zero_le _, .inl ⟨rfl, rfl⟩⟩ s hr
      · exact fun i H' W' r s hr => k H' W' _ r [] [] (.drop i) ⟨Nat.zero_le _, .inl ⟨rfl, rfl⟩⟩ s hr
      · exact fun i l H' W' r hl s hr => k H' W' _ r [] [] (.dup i l hl) ⟨Nat.zero_le _, .inl ⟨rfl, rfl⟩⟩ s hr
    refine ifF (decide_eq_false c2) ?_
    -- thing = things[more % len(things)]
    have b0 := Int.emod_nonneg (c / 16) (show ((ts.map V.str).length : Int) ≠ 0 by rw [List.length_map]; omega)
    have b1 := Int.emod_lt_of_pos (c / 16) (show (0 : Int) < ((ts.map V.str).length : Int) by rw [List.length_map]; omega)
    obtain ⟨v, hv, ev⟩ := atI_mod b0 b1
    obtain ⟨t, ht, rfl⟩ := List.mem_map.mp hv
    refine ⟨_, rfl, _, rfl, _, rfl, z, _, rfl, .inl (SqL.of hz), _, _, rfl, rfl, (by show (0 : Int) < ((ts.map V.str).length : Int); rw [List.length_map]; omega), z, _, _, _, rfl, rfl, SqL.of hz, ev, ?_⟩
    refine ⟨_, rfl, _, rfl, W, X, t, rfl, A1, fun o0 ho0 H0 s0 => ?_⟩
    refine gName_of ?_
    dsimp only
    refine seq_D fun D' hD => ?_
    have rest : ∀ o ∈ names4, ∀ H1, Same H H1 → D'.nx [some (.ref W.wa), some (.ref z), some (.int c), some (.int (c % 16)), some (.int (c / 16)), some (.str t), some (.str o), none, none] H1 := by
      intro o ho H1 s1
      rw [hD]
      have A2 := A1.same s1
      have st0 := WStp.same A1 s1
      obtain ⟨d2, hw2⟩ := A2.w
      have smo := sml.sm o ho
      refine ⟨_, rfl, _, _, rfl, rfl, _, rfl, ?_⟩
      by_cases c4 : c % 16 < 6
      · refine ifT (decide_eq_true c4) ?_
        obtain ⟨rc, hrc, hat⟩ := name_at (c / 16 / 3)
        refine ⟨rfl, fun r1 hr1 => ⟨_, rfl, _, _, rfl, rfl, ⟨by decide, by decide⟩, _, _, rfl, rfl, (by show (0 : Int) < 4; decide), r1, _, _, _, rfl, rfl, SqL.of upd_same, hat, ?_⟩⟩
        have s2 := Same.upd (H := H1) (o := HO.lst (names4.map V.str)) hr1
        have s12 := Same.tr s1 s2
        generalize hH2 : upd H1 r1 (.lst (names4.map V.str)) = H2 at s2 s12 ⊢
        obtain ⟨d3, hw3⟩ := (A1.same s12).w
        refine ⟨_, rfl, W.wa, d3, _, rfl, hw3, ln_World_give _ _, _, rfl, _, rfl, _, rfl, W, X, o, t, rc, rfl, A1.same s12, ho, hrc, smo, by omega, kE.same s12, fun hr e he hh hc H3 W3 s3 => ?_⟩
        refine ⟨_, rfl, _, rfl, _, rfl, line16 (by show 4 ≤ 16000000; decide), fun q hq => ?_⟩
        exact k _ W3 _ q _ [] (.give o t rc e ho ht hrc hr he hh hc) ⟨Nat.zero_le _, .inr (.inr (.inr ⟨"give", _, .inl rfl, rfl, rfl⟩))⟩ ((WStp.same A1 s12).trans (s3.trans (WStp.same s3.at_ (Same.upd hq)))) upd_same
      refine ifF (decide_eq_false c4) ⟨_, rfl, rfl, _, rfl, ?_⟩
      by_cases c5 : V.int (c % 16) = V.int 6
      · refine ifT (decide_eq_true c5) ?_
        refine ⟨_, rfl, _, rfl, line16 (by show 3 ≤ 16000000; decide), fun l hl => ?_⟩
        have s2 := Same.upd (H := H1) (o := HO.lst [V.str "split", V.str o, V.str t]) hl
        have hl2 := upd_same (H := H1) (a := l) (o := HO.lst [V.str "split", V.str o, V.str t])
        have s12 := Same.tr s1 s2
        have nfl := A2.none hl
        generalize hH2 : upd H1 l (.lst [V.str "split", V.str o, V.str t]) = H2 at s2 hl2 s12 ⊢
        obtain ⟨d3, hw3⟩ := (A1.same s12).w
        refine ⟨_, rfl, W.wa, d3, _, rfl, hw3, ln_World_split _ _, _, rfl, _, rfl, ?_⟩
        refine ⟨_, rfl, _, rfl, _, rfl, _, rfl, _, _, rfl, rfl, ⟨by decide, by decide⟩, W, X, o, t, c / 16 / 5, rfl, A1.same s12, ho, smo, fun r2 H4 ns s4 hr2 hy2 hn3 => ?_⟩
        have s14 := Same.tr s12 s4
        refine ⟨W, X, o, t, r2, ns, rfl, A1.same s14, ho, smo, hy2, by omega, kE.same s14, fun e he hh hc h1 h2 h3 H5 W5 q s5 hq nf hy => ?_⟩
        have hl5 := s5.fr.keep l _ (s4 _ _ hl2) nfl
        have il := idsL_len o (X.S o).nx ns.length
        refine ⟨l, q, _, _, rfl, rfl, hl5, hy, line16 (by rw [List.length_map, il]; show 3 + ns.length ≤ _; omega), fun p hp => ?_⟩
        exact k _ W5 _ p _ (idsL o (X.S o).nx ns.length) (.split o t e ns ho ht he hh hc h1 h2 hn3 h3) ⟨by rw [il]; exact hn3, .inr (.inl ⟨_, _, rfl⟩)⟩ ((WStp.same A1 s14).trans (s5.trans (WStp.same s5.at_ (Same.upd hp)))) upd_same
      refine ifF (decide_eq_false c5) ⟨_, rfl, rfl, _, rfl, ?_⟩
      by_cases c6 : V.int (c % 16) = V.int 7
      · refine ifT (decide_eq_true c6) ?_
        refine ⟨_, rfl, _, rfl, _, rfl, _, _, rfl, rfl, ⟨by decide, by decide⟩, W, X, o, c / 16 / 5, rfl, A2, ho, smo, fun r2 H4 ts2 s4 hr2 hy2 hn3 => ?_⟩
        have s14 := Same.tr s1 s4
        have A4 := A1.same s14
        obtain ⟨d3, hw3⟩ := A4.w
        have nf2 := A2.none hr2
        refine ⟨_, rfl, _, rfl, W.wa, d3, _, rfl, hw3, ln_World_join _ _, _, rfl, _, rfl, W, X, o, r2, ts2, rfl, A4, ho, smo, hy2, by omega, kE.same s14, fun t0 r e0 h1 h2 h3 h4 h5 h6 H5 W5 s5 => ?_⟩
        refine ⟨line16 (by show 3 ≤ 16000000; decide), fun l hl => ?_⟩
        have hy5 := s5.fr.keep r2 _ hy2 nf2
        have s6 := Same.upd (H := H5) (o := HO.lst [V.str "join", V.str o, V.str (idf o (X.S o).nx)]) hl
        refine ⟨_, rfl, l, r2, _, _, rfl, rfl, upd_same, s6 _ _ hy5, line16 (by rw [List.length_map]; show 3 + ts2.length ≤ _; omega), fun p hp => ?_⟩
        subst h1
        exact k _ W5 _ p _ [idf o (X.S o).nx] (.join o t0 r e0 ho h2 h3 hn3 h5 h6) ⟨by show 1 ≤ 3; decide, .inr (.inr (.inl ⟨"join", .str o, idf o (X.S o).nx, _, .inr rfl, rfl, rfl⟩))⟩ ((WStp.same A1 s14).trans (s5.trans (WStp.same s5.at_ (Same.tr s6 (Same.upd hp))))) upd_same
      refine ifF (decide_eq_false c6) ⟨_, rfl, rfl, _, rfl, ?_⟩
      by_cases c7 : V.int (c % 16) = V.int 8
      · refine ifT (decide_eq_true c7) ?_
        refine ⟨_, rfl, W.wa, d2, _, rfl, hw2, ln_World_use _ _, _, rfl, _, rfl, W, X, o, t, rfl, A2, ho, smo, by omega, kE.same s1, fun e he hh hc H3 W3 s3 => ?_⟩
        refine ⟨_, rfl, _, rfl, line16 (by show 3 ≤ 16000000; decide), fun q hq => ?_⟩
        exact k _ W3 _ q _ [] (.use o t e ho ht he hh hc) ⟨Nat.zero_le _, .inr (.inr (.inr ⟨"use", _, .inr (.inl rfl), rfl, rfl⟩))⟩ (st0.trans (s3.trans (WStp.same s3.at_ (Same.upd hq)))) upd_same
      refine ifF (decide_eq_false c7) ⟨_, rfl, rfl, _, rfl, ?_⟩
      by_cases c8 : V.int (c % 16) = V.int 9
      · refine ifT (decide_eq_true c8) ?_
        refine ⟨_, rfl, W.wa, d2, _, rfl, hw2, ln_World_recall _ _, _, rfl, _, rfl, W, X, o, t, rfl, A2, ho, smo, by omega, kE.same s1, fun e he hh hc H3 W3 S3 ap s3 => ?_⟩
        refine ⟨_, rfl, _, rfl, line16 (by show 3 ≤ 16000000; decide), fun q hq => ?_⟩
        exact k _ W3 _ q _ [] (.rcl o t e S3 ho ht he hh hc ap) ⟨Nat.zero_le _, .inr (.inr (.inr ⟨"recall", _, .inr (.inr rfl), rfl, rfl⟩))⟩ (st0.trans (s3.trans (WStp.same s3.at_ (Same.upd hq)))) upd_same
      refine ifF (decide_eq_false c8) ?_
      refine ⟨_, rfl, W.wa, d2, _, rfl, hw2, ln_World_tick _ _, _, rfl, W, X, o, rfl, A2, ho, smo, by omega, fun H3 s3 => ?_⟩
      refine ⟨Nat.zero_le _, fun q hq => ?_⟩
      exact k _ W _ q _ [] (.tick o ho) ⟨Nat.zero_le _, .inl ⟨rfl, rfl⟩⟩ (st0.trans (s3.trans (WStp.same s3.at_ (Same.upd hq)))) upd_same
    refine ⟨_, rfl, _, _, rfl, rfl, ⟨by decide, by decide⟩, _, _, rfl, rfl, (by show (0 : Int) < 6; decide), rfl, _, rfl, ?_⟩
    by_cases c3 : V.int (c / 16 / 31 % 6) = V.int 0
    · refine ifT (decide_eq_true c3) ?_
      obtain ⟨o, ho, hat⟩ := name_at (c / 16 / 7)
      refine ⟨rfl, fun r1 hr1 => ⟨_, rfl, _, _, rfl, rfl, ⟨by decide, by decide⟩, _, _, rfl, rfl, (by show (0 : Int) < 4; decide), r1, _, _, _, rfl, rfl, SqL.of upd_same, hat, ?_⟩⟩
      exact rest o ho _ (Same.tr s0 (Same.upd hr1))
    · exact ifF (decide_eq_false c3) (rest o0 ho0 H0 s0)
end LH
namespace LH
open PySem PySem.Spec PyProof.Rows L2
/-! ### a step is tried -/
def LF (W : WLay) (X : WS) (z b : Addr) : Prop := WFoot W X b ∨ b = z
structure LStp (K : PySem.W.Frag) (H : Hp) (W : WLay) (X : WS) (z : Addr) (ts : List Str) (H' : Hp) (W' : WLay) (X' : WS) (ts' : List Str) : Prop where
  at_ : WAt K H' W' X'
  wa : W'.wa = W.wa
  zl : H' z = some (.lst (ts'.map V.str))
  zf : ¬ WFoot W' X' z
  fr : Frm H (LF W X z) H' (LF W' X' z)
theorem lstp_of {K : PySem.W.Frag} {H H' : Hp} {W W' : WLay} {X X' : WS} {z : Addr} {ts : List Str} (st : WStp K H W X H' W' X') (hz : H z = some (.lst (ts.map V.str))) (nf : ¬ WFoot W X z) : LStp K H W X z ts H' W' X' ts := by
  refine ⟨st.at_, st.wa, st.fr.keep z _ hz nf, fun f => (st.fr.new z f).elim nf fun w => (by rw [hz] at w; cases w), ⟨fun b u e n => st.fr.keep b u e fun f => n (.inl f), fun b f => ?_, st.fr.grow⟩⟩
  rcases f with f | f
  · exact (st.fr.new b f).imp .inl id
  · exact .inl (.inr f)
theorem LStp.trans {K : PySem.W.Frag} {H H1 H2 : Hp} {W W1 W2 : WLay} {X X1 X2 : WS} {z : Addr} {ts ts1 ts2 : List Str} (a : LStp K H W X z ts H1 W1 X1 ts1) (b : LStp K H1 W1 X1 z ts1 H2 W2 X2 ts2) : LStp K H W X z ts H2 W2 X2 ts2 := ⟨b.at_, b.wa.trans a.wa, b.zl, b.zf, a.fr.trans b.fr⟩
/-- the list of things grows -/
theorem lstp_add {K : PySem.W.Frag} {H : Hp} {W : WLay} {X : WS} {z : Addr} {ts new : List Str} (h : WAt K H W X) (hz : H z = some (.lst (ts.map V.str))) (nf : ¬ WFoot W X z) : LStp K H W X z ts (upd H z (.lst (ts.map V.str ++ new.map V.str))) W X (ts ++ new) := by
  have ne : ∀ {b}, WFoot W X b → b ≠ z := fun f e => nf (by rw [← e]; exact f)
  have kt : ∀ a r, H a = some (.tup r) → upd H z (.lst (ts.map V.str ++ new.map V.str)) a = some (.tup r) := fun a r e => (upd_ne (ne_of e hz (by intro w; cases w))).trans e
  obtain ⟨dw, hw⟩ := h.w
  obtain ⟨ys, ⟨dn, q1, q2⟩, tp⟩ := h.net
  refine ⟨⟨⟨dw, (upd_ne (ne (.inl rfl))).trans hw⟩, ⟨ys, ⟨dn, (upd_ne (ne (.inr (.inl rfl)))).trans q1, (upd_ne (ne (.inr (.inr (.inl rfl))))).trans q2⟩, tp.mono kt⟩, (upd_ne (ne (.inr (.inr (.inr (.inl rfl)))))).trans h.od,
    fun o ho => (h.off o ho).keep (fun b f => upd_ne (ne (.inr (.inr (.inr (.inr ⟨o, ho, f⟩)))))) kt, h.nm, h.sep, h.out⟩, rfl, ?_, nf, ⟨fun b u e n => (upd_ne fun w => n (.inr w)).trans e, fun b f => .inl f, fun b n => ?_⟩⟩
  · rw [upd_same, List.map_append]
  · by_cases w : b = z
    · rw [w, upd_same]
      intro v
      cases v
    · rw [upd_ne w]
      exact n
theorem held_ok {K : PySem.W.Frag} {mg : Str → Option Value} (T : Txt K mg) {C : Addr} (h : HeldC K C) : PySem.W.exmOne K (.ref C) (.ref (xHeldError K)) = some true := by
  rcases h with rfl | rfl | rfl | rfl | rfl | rfl | rfl
  · exact T.e_NotHeld
  · exact T.e_Frozen
  · exact T.e_UnknownThing
  · exact T.e_InvalidQuantity
  · exact T.e_InvalidOffice
  · exact T.e_InvalidThings
  · exact T.e_NoLetter
theorem cut3 (a b c : V) (xs : List V) : cutV (a :: b :: c :: xs) (some 3) none = xs := by
  have c3 : (3 : Int) = ((3 : Nat) : Int) := rfl
  unfold cutV
  rw [HT.sIx_none, c3, HT.sIx_nat, Nat.min_eq_left (by simp)]
  simp
def spTry (K : PySem.W.Frag) : Sp := fun vs H Q _ => ∃ (W : WLay) (X : WS) (z : Addr) (ts : List Str) (c : Int), vs = [.ref W.wa, .ref z, .int c] ∧ WAt K H W X ∧ Sml X 13000000 ∧ H z = some (.lst (ts.map V.str)) ∧ ¬ WFoot W X z ∧ ts.length ≤ 1000000 ∧
  ∀ H' W' X' new v, (LStep X ts X' new ∨ (X' = X ∧ new = [])) → LStp K H W X z ts H' W' X' (ts ++ new) → Q v H'
theorem sc_law_try : FnScope ["_law_world", "_law_things", "_law_cell", "_law_told"] ["_law_world", "_law_things", "_law_cell"] (defScope s_law_try) := ⟨rfl, rfl, rfl, by decide +kernel, rfl, by decide +kernel, by decide +kernel⟩
abbrev Ok_law_try (P : Program) (w : World) (K : PySem.W.Frag) (mg : Str → Option Value) (base : Heap) : Prop := Has P w K mg base CX0 13 (f_law_try K) ["_law_world", "_law_things", "_law_cell"] (spTry K)
theorem ok_law_try {P : Program} {w : World} {K : PySem.W.Frag} {mg : Str → Option Value} {base : Heap} (T : Txt K mg) (h_law_step : Ok_law_step P w K mg base) : Ok_law_try P w K mg base := by
  obtain ⟨fd, F⟩ := T.d_law_try
  obtain ⟨fd_law_step, G_law_step, b_law_step⟩ := h_law_step
  have k_law_step : PySem.W.keepIn K (.ref (f_law_step K)) = true := by
    obtain ⟨_, q⟩ := T.d_law_step
    exact q.kp
  refine ⟨fd, FunD.ok (CX := CX0) F sc_law_try (fun vs H Q E h => ?_) (fun cdv A outer s H vs Q E hr h => ?_), FunD.bindsN F fun _ _ _ _ _ _ us hl => match us, hl with | [_, _, _], _ => rfl⟩
  · obtain ⟨W, X, z, ts, c, rfl, _⟩ := h
    rfl
  · have hu := hu_of hr
    refine ⟨_, PSs.nox (pss_cons (ps_try_only (tb := fun W => tAsg (tCallS (spLStep K) (WE W) (tCons (tVar 0) (tCons (tVar 1) (tCons (tVar 2) tNil)))) (gName 3)) (ts := fun _ _ _ => tRet (tLst tNil)) (Wout := fun _ _ _ _ => False) (c := .ref (xHeldError K)) rfl rfl ⟨rfl, by decide, Or.inl T.g_HeldError⟩ takes0
      (fun W pn xe tk _ => pss_one (ps_set (i := 3) sc_law_try.nd rfl (Or.inl rfl) (pe_callS G_law_step (hr.mono (by decide)) rfl T.g_law_step k_law_step b_law_step (fun σ => passAt tk σ) (by exact (pa_cons (pv 0) (pa_cons (pv 1) (pa_cons (pv 2) pa_nil)))))))
      (fun _ _ _ _ _ _ _ => pss_one (ps_ret (pe_lst pa_nil))))
      (pss_cons (ps_if (PW.pt (pw_and (pt_truth (pv 3) (by intro _; rfl)) (pw_and1 (pt_cmpR op_eq (pe_ix ix_list (pv 3) pe_int (fun _ _ => rfl)) pe_str (nomark _))))) (pss_one (ps_expr (pe_bm PySem.F.plainAttrs_list PySem.F.slot_list_extend PySem.F.type_list_extend mt_extend (pv 1) (pa_cons (pe_slice sl_list (pv 3) (po_some pe_int) po_none) pa_nil)))) (pss_one (ps_if (PW.pt (pw_and (pt_truth (pv 3) (by intro _; rfl)) (pw_and1 (pt_cmpR op_in_seq (pe_ix ix_list (pv 3) pe_int (fun _ _ => rfl)) (pe_tup (pa_cons pe_str (pa_cons pe_str pa_nil))) (by rfl))))) (pss_one (ps_expr (pe_bm PySem.F.plainAttrs_list PySem.F.slot_list_append PySem.F.type_list_append mt_append (pv 1) (pa_cons (pe_ix ix_list (pv 3) pe_int (fun _ _ => rfl)) pa_nil)))) pss_nil)))
      (pss_one (ps_ret (pv 3))))), ?_⟩
    obtain ⟨W, X, z, ts, c, rfl, A1, sml, hz, nf, hl, k⟩ := h
    refine ⟨_, rfl, _, rfl, _, rfl, W, X, z, ts, c, rfl, A1, sml, hz, fun C H' hC s1 => ⟨true, held_ok T hC, fun _ a ha => ?_, fun q => by cases q⟩, fun H' W' X' r told new hs ht st hr => ?_⟩
    · refine ⟨Nat.zero_le _, fun q hq => ?_⟩
      have st := WStp.same A1 (Same.tr s1 (Same.upd (o := HO.lst []) hq))
      refine k _ W X [] _ (.inr ⟨rfl, rfl⟩) ?_
      rw [List.append_nil]
      exact lstp_of st hz nf
    · have st1 := lstp_of st hz nf
      have nfz := st1.zf
      have hz1 := st1.zl
      have A2 := st1.at_
      obtain ⟨h3, hc⟩ := ht
      rcases hc with ⟨rfl, rfl⟩ | ⟨a, b, rfl⟩ | ⟨w, a, n, rest, hw, rfl, rfl⟩ | ⟨w, rest, hw, rfl, rfl⟩
      · refine ⟨_, rfl, _, .inl ⟨_, SqL.of hr, rfl⟩, iteF (ifF rfl ?_)⟩
        refine ⟨_, rfl, _, .inl ⟨_, SqL.of hr, rfl⟩, iteF (ifF rfl ⟨_, rfl, ?_⟩)⟩
        refine k H' W' X' [] _ (.inl hs) ?_
        rw [List.append_nil]
        exact st1
      · refine ⟨_, rfl, _, .inl ⟨_, SqL.of hr, rfl⟩, iteT ⟨_, rfl, ixL T hr (.str "split") (hv := atI_nat (j := 0) rfl) ⟨rfl, _, rfl, ifT (by decide +kernel) ?_⟩⟩⟩
        refine ⟨_, rfl, .inl ⟨rfl, _, SqL.of hz1⟩, _, rfl, _, rfl, r, _, rfl, SqL.of hr, fun p hp => ?_⟩
        rw [cut3]
        have s2 := Same.upd (H := H') (o := HO.lst (new.map V.str)) hp
        have st2 := lstp_of (WStp.same A2 s2) hz1 nfz
        refine ⟨z, p, _, _, rfl, rfl, s2 _ _ hz1, upd_same, line16 (by rw [List.length_map, List.length_map]; omega), ?_⟩
        exact ⟨_, rfl, k _ W' X' new _ (.inl hs) (st1.trans (st2.trans (lstp_add st2.at_ st2.zl st2.zf)))⟩
      · refine ⟨_, rfl, _, .inl ⟨_, SqL.of hr, rfl⟩, iteT ⟨_, rfl, ixL T hr (.str w) (hv := atI_nat (j := 0) rfl) ⟨rfl, _, rfl, ifF (by rcases hw with rfl | rfl <;> decide +kernel) ?_⟩⟩⟩
        refine ⟨_, rfl, _, .inl ⟨_, SqL.of hr, rfl⟩, iteT ⟨_, rfl, ixL T hr (.str w) (hv := atI_nat (j := 0) rfl) ⟨line16 (by show 2 ≤ 16000000; decide), fun p hp => ?_⟩⟩⟩
        have s2 := Same.upd (H := H') (o := HO.tup [V.str "register", V.str "join"]) hp
        have st2 := lstp_of (WStp.same A2 s2) hz1 nfz
        have hr2 := s2 _ _ hr
        refine ⟨p, _, rfl, .inr (SqT.of upd_same), rfl, rfl, _, rfl, ifT (by rcases hw with rfl | rfl <;> decide +kernel) ?_⟩
        refine ⟨_, rfl, .inl ⟨rfl, _, SqL.of (s2 _ _ hz1)⟩, _, rfl, ixL T hr2 (.str n) (hv := atI_nat (j := 2) rfl) ⟨z, _, _, rfl, rfl, s2 _ _ hz1, lt_line (by rw [List.length_map]; omega), ?_⟩⟩
        exact ⟨_, rfl, k _ W' X' [n] _ (.inl hs) (st1.trans (st2.trans (lstp_add (new := [n]) st2.at_ st2.zl st2.zf)))⟩
      · refine ⟨_, rfl, _, .inl ⟨_, SqL.of hr, rfl⟩, iteT ⟨_, rfl, ixL T hr (.str w) (hv := atI_nat (j := 0) rfl) ⟨rfl, _, rfl, ifF (by rcases hw with rfl | rfl | rfl <;> decide +kernel) ?_⟩⟩⟩
        refine ⟨_, rfl, _, .inl ⟨_, SqL.of hr, rfl⟩, iteT ⟨_, rfl, ixL T hr (.str w) (hv := atI_nat (j := 0) rfl) ⟨line16 (by show 2 ≤ 16000000; decide), fun p hp => ?_⟩⟩⟩
        have s2 := Same.upd (H := H') (o := HO.tup [V.str "register", V.str "join"]) hp
        have st2 := lstp_of (WStp.same A2 s2) hz1 nfz
        refine ⟨p, _, rfl, .inr (SqT.of upd_same), rfl, rfl, _, rfl, ifF (by rcases hw with rfl | rfl | rfl <;> decide +kernel) ⟨_, rfl, ?_⟩⟩
        refine k _ W' X' [] _ (.inl hs) ?_
        rw [List.append_nil]
        exact st1.trans st2
end LH
namespace LH
open PySem PySem.Spec PyProof.Rows L2
/-! ### the law -/
/-- what an office has used of the things -/
def usedBy (X : WS) : List Str → Str → Int
  | [], _ => 0
  | t :: r, o => (((users X t).map fun u => if u.1 = o then u.2.2 else 0).sum) + usedBy X r o
theorem used_snoc (X : WS) (t o : Str) : ∀ l, usedBy X (l ++ [t]) o = usedBy X l o + ((users X t).map fun u => if u.1 = o then u.2.2 else 0).sum
  | [] => by
    show _ + 0 = 0 + _
    omega
  | a :: l => by
    have ih := used_snoc X t o l
    show ((users X a).map fun u => if u.1 = o then u.2.2 else 0).sum + usedBy X (l ++ [t]) o = ((users X a).map fun u => if u.1 = o then u.2.2 else 0).sum + usedBy X l o + _
    omega
structure LawOk (I : Nat → WS → List Str → Prop) (G : List Str → WS → Prop) (μ : List Str → WS → Nat) : Prop where
  init : I 0 newW []
  sml : ∀ n X ts, I n X ts → n ≤ 60 → Sml X 13000000 ∧ ts.length ≤ 1000
  step : ∀ n X ts X' new, I n X ts → n < 60 → (LStep X ts X' new ∨ (X' = X ∧ new = [])) → I (n + 1) X' (ts ++ new)
  one : ∀ n X ts, I n X ts → ∀ t ∈ ts, (users X t).length ≤ 1
  right : ∀ n X ts, I n X ts → Right X
  calm : ∀ n X ts, I n X ts → n ≤ 60 → G ts X ∧ CalmOk (G ts) (μ ts)
  fin : ∀ X ts, G ts X → X.ns = [] → allpend X = [] → Right X ∧ (∀ o ∈ names4, (X.S o).cr = usedBy X ts o) ∧ (payRows X).length = (ts.filter fun t => !(users X t).isEmpty).length
theorem cut_take2 {ls : List V} {i : Nat} : cutV ls none (some (i : Int)) = ls.take i := by
  unfold cutV
  rw [HT.sIx_none, HT.sIx_nat, List.drop_zero]
  by_cases h : i ≤ ls.length
  · rw [Nat.min_eq_left h]
    rfl
  · rw [Nat.min_eq_right (by omega), Nat.sub_zero, List.take_of_length_le (Nat.le_refl _), List.take_of_length_le (by omega)]
theorem users_nm (X : WS) (t : Str) : ∀ u ∈ users X t, u.1 ∈ names4 := by
  intro u hu
  obtain ⟨o, ho, q⟩ := List.mem_flatMap.mp hu
  unfold useRow at q
  split at q
  · cases q
  · split at q
    · rw [List.mem_singleton.mp q]
      exact ho
    · cases q
theorem ints_dp {K : PySem.W.Frag} {H : Hp} : ∀ ns : List Int, DpAll K H (ns.map V.int) (ns.map PyData.int)
  | [] => .nil
  | n :: r => .cons (.int n) (ints_dp r)
theorem ints_same (ns : List Int) : SeqAt.shaped (.list (ns.map PyData.int)) = true ∧ PyData.eqv (.list (ns.map PyData.int)) (.list (ns.map PyData.int)) = true := by
  have l1 : PyData.canLay0 (.list (ns.map PyData.int)) = true := by
    show PyData.canLayAll0 (ns.map PyData.int) = true
    induction ns with
    | nil => rfl
    | cons n r ih =>
      show (true && PyData.canLayAll0 (r.map PyData.int)) = true
      rw [ih]
      rfl
  have l2 : PyData.depthAll (ns.map PyData.int) = 0 := by
    clear l1
    induction ns with
    | nil => rfl
    | cons n r ih =>
      show max 0 (PyData.depthAll (r.map PyData.int)) = 0
      rw [ih]
      rfl
  refine ⟨?_, PySem.SeqAt.eqv_refl _ l1⟩
  unfold SeqAt.shaped
  have l3 : PyData.depth (.list (ns.map PyData.int)) = 1 := by
    show PyData.depthAll (ns.map PyData.int) + 1 = 1
    rw [l2]
  rw [l1, l3]
  rfl
theorem sql_keep {K : PySem.W.Frag} {H H' : Hp} {a : Addr} {xs : List V} (h : SqL K H a xs) (k : ∀ u, H a = some u → H' a = some u) : SqL K H' a xs :=
  h.imp (fun r => r.imp (fun q => k _ q) fun ⟨o, q⟩ => ⟨o, k _ q⟩) id
def spLaw (K : PySem.W.Frag) : Sp := fun vs H Q _ => ∃ (a : Addr) (ns : List Int) (I : Nat → WS → List Str → Prop) (G : List Str → WS → Prop) (μ : List Str → WS → Nat), vs = [.ref a] ∧ SqL K H a (ns.map V.int) ∧ LawOk I G μ ∧ ∀ H', Q (.bl true) H'
theorem sc_law : FnScope ["_law_script", "_law_world", "_law_things", "_law_cell", "_law_used", "_law_thing", "_law_name", "_law_home", "_law_quantity", "_law_t"] ["_law_script"] (defScope s_law) := ⟨rfl, rfl, rfl, by decide +kernel, rfl, by decide +kernel, by decide +kernel⟩
abbrev Ok_law (P : Program) (w : World) (K : PySem.W.Frag) (mg : Str → Option Value) (base : Heap) : Prop := Has P w K mg base CX0 14 (f_law K) ["_law_script"] (spLaw K)
theorem ok_law_at {P : Program} {w : World} {K : PySem.W.Frag} {mg : Str → Option Value} {base : Heap} (T : Txt K mg) {fd : FuncData} (F : FnP K "law" "law" s_law [] (f_law K) fd) (h_World_init : Ok_World_init P w K mg base) (h_law_names : Ok_law_names P w K mg base) (h_law_try : Ok_law_try P w K mg base) (h_law_users : Ok_law_users P w K mg base) (h_law_right : Ok_law_right P w K mg base) (h_World_calm : Ok_World_calm P w K mg base) (h_law_payments : Ok_law_payments P w K mg base) (h_Office_credit : Ok_Office_credit P w K mg base) (h_World_office : Ok_World_office P w K mg base) : FnOk P w K mg base CX0 14 (f_law K) fd ["_law_script"] (spLaw K) := by
  obtain ⟨fd_World_init, G_World_init, b_World_init⟩ := h_World_init
  obtain ⟨fd_law_names, G_law_names, b_law_names⟩ := h_law_names
  have k_law_names : PySem.W.keepIn K (.ref (f_law_names K)) = true := by
    obtain ⟨_, q⟩ := T.d_law_names
    exact q.kp
  obtain ⟨fd_law_try, G_law_try, b_law_try⟩ := h_law_try
  have k_law_try : PySem.W.keepIn K (.ref (f_law_try K)) = true := by
    obtain ⟨_, q⟩ := T.d_law_try
    exact q.kp
  obtain ⟨fd_law_users, G_law_users, b_law_users⟩ := h_law_users
  have k_law_users : PySem.W.keepIn K (.ref (f_law_users K)) = true := by
    obtain ⟨_, q⟩ := T.d_law_users
    exact q.kp
  obtain ⟨fd_law_right, G_law_right, b_law_right⟩ := h_law_right
  have k_law_right : PySem.W.keepIn K (.ref (f_law_right K)) = true := by
    obtain ⟨_, q⟩ := T.d_law_right
    exact q.kp
  obtain ⟨fd_World_calm, G_World_calm, b_World_calm⟩ := h_World_calm
  obtain ⟨fd_law_payments, G_law_payments, b_law_payments⟩ := h_law_payments
  have k_law_payments : PySem.W.keepIn K (.ref (f_law_payments K)) = true := by
    obtain ⟨_, q⟩ := T.d_law_payments
    exact q.kp
  obtain ⟨fd_Office_credit, G_Office_credit, b_Office_credit⟩ := h_Office_credit
  obtain ⟨fd_World_office, G_World_office, b_World_office⟩ := h_World_office
  refine FunD.ok (CX := CX0) F sc_law (fun vs H Q E h => ?_) (fun cdv A outer s H vs Q E hr h => ?_)
  · obtain ⟨a, ns, I, G, μ, rfl, _⟩ := h
    rfl
  · have hu := hu_of hr
    refine ⟨_, PSs.nox (pss_cons (ps_set (i := 1) sc_law.nd rfl (Or.inr rfl) (pe_make T.mk_World G_World_init (hr.mono (by decide)) rfl T.g_World b_World_init .nil pass0 (pa_cons (pe_call0 G_law_names (hr.mono (by decide)) rfl T.g_law_names k_law_names b_law_names .nil pass0) pa_nil)))
      (pss_cons (ps_set (i := 2) sc_law.nd rfl (Or.inl rfl) (pe_lst pa_nil))
      (pss_cons (ps_for PassesOwn.never rfl (pi_list (pe_slice sl_list (pv 0) po_none (po_some pe_int))) (pg_name (i := 3) sc_law.nd rfl (Or.inl rfl)) (pss_cons (ps_expr (pe_call G_law_try (hr.mono (by decide)) rfl T.g_law_try k_law_try b_law_try .nil pass0 (pa_cons (pv 1) (pa_cons (pv 2) (pa_cons (pv 3) pa_nil)))))
      (pss_cons (ps_for PassesOwn.never rfl (pi_list (pv 2)) (pg_name (i := 5) sc_law.nd rfl (Or.inl rfl)) (pss_one (ps_if (pt_cmpR op_gt (pe_callB call_len_seq (by rfl) T.b_len PySem.boot_len (pa_cons (pe_call G_law_users (hr.mono (by decide)) rfl T.g_law_users k_law_users b_law_users .nil pass0 (pa_cons (pv 1) (pa_cons (pv 5) pa_nil))) pa_nil)) pe_int (nomark _)) (pss_one (ps_ret pe_bl)) pss_nil)))
      (pss_one (ps_if (pt_not (pt_val (pe_call G_law_right (hr.mono (by decide)) rfl T.g_law_right k_law_right b_law_right .nil pass0 (pa_cons (pv 1) pa_nil)))) (pss_one (ps_ret pe_bl)) pss_nil)))))
      (pss_cons (ps_expr (pe_meth0 (pv 1) T.cl_World T.m_World_calm G_World_calm (hr.mono (by decide)) b_World_calm .nil pass0))
      (pss_cons (ps_set (i := 4) sc_law.nd rfl (Or.inr rfl) (pe_disp (pps_cons pe_str pe_int (pps_cons pe_str pe_int (pps_cons pe_str pe_int (pps_cons pe_str pe_int pps_nil)))) (by rfl) (by rfl) (fun z => by cases z) (by decide)))
      (pss_cons (ps_for PassesOwn.never rfl (pi_list (pv 2)) (pg_name (i := 5) sc_law.nd rfl (Or.inl rfl)) (pss_one (ps_for PassesOwn.never rfl (pi_list (pe_call G_law_users (hr.mono (by decide)) rfl T.g_law_users k_law_users b_law_users .nil pass0 (pa_cons (pv 1) (pa_cons (pv 5) pa_nil)))) (pg_tup rfl (pgs_cons (pg_name (i := 6) sc_law.nd rfl (Or.inl rfl)) (pgs_cons (pg_name (i := 7) sc_law.nd rfl (Or.inl rfl)) (pgs_cons (pg_name (i := 8) sc_law.nd rfl (Or.inl rfl)) pgs_nil)))) (pss_one (ps_dput hu (pv 4) (pv 6) (pe_op op_add (pe_dget hu (pv 4) (pv 6) (fun _ _ => rfl)) (pv 8)) rfl)))))
      (pss_cons (ps_if (PW.pt (pw_or (pt_not (pt_val (pe_call G_law_right (hr.mono (by decide)) rfl T.g_law_right k_law_right b_law_right .nil pass0 (pa_cons (pv 1) pa_nil)))) (pw_or1 (pt_cmpR op_ne (pe_callB call_len_seq (by rfl) T.b_len PySem.boot_len (pa_cons (pe_call G_law_payments (hr.mono (by decide)) rfl T.g_law_payments k_law_payments b_law_payments .nil pass0 (pa_cons (pv 1) pa_nil)) pa_nil)) (pe_callB call_len_seq (by rfl) T.b_len PySem.boot_len (pa_cons (pe_lc (own := [("_law_t", 9)]) (g := gName 9) (by rfl) sc_law.nd (pi_list (pv 2)) (blkOk_by (own := [("_law_t", 9)]) (N := ["_law_script", "_law_world", "_law_things", "_law_cell", "_law_used", "_law_thing", "_law_name", "_law_home", "_law_quantity", "_law_t"]) (sc := defScope s_law) (by decide +kernel)) (fun _ _ _ _ _ => (pg_name (i := 9) sc_law.nd rfl (Or.inl rfl))) (fun _ _ _ _ _ => (by exact (pts_one (pt_truthB (K := K) rfl (pe_call G_law_users (hr.mono (by decide)) rfl T.g_law_users k_law_users b_law_users .nil pass0 (by exact (pa_cons (pv 1) (pa_cons (pv 9) pa_nil)))) (by intro _; rfl))))) (fun _ _ _ _ _ => (by exact (pv 9)))) pa_nil)) (nomark _))))) (pss_one (ps_ret pe_bl)) pss_nil)
      (pss_one (ps_ret (pe_cmpR (op_eqD hr.units) (pe_lc (own := [("_law_name", 6)]) (g := gName 6) (tt := tYes) (by rfl) sc_law.nd (pi_list (pe_call0 G_law_names (hr.mono (by decide)) rfl T.g_law_names k_law_names b_law_names .nil pass0)) (blkOk_by (own := [("_law_name", 6)]) (N := ["_law_script", "_law_world", "_law_things", "_law_cell", "_law_used", "_law_thing", "_law_name", "_law_home", "_law_quantity", "_law_t"]) (sc := defScope s_law) (by decide +kernel)) (fun _ _ _ _ _ => (pg_name (i := 6) sc_law.nd rfl (Or.inl rfl))) (fun _ _ _ _ _ => pts_nil) (fun _ _ _ _ _ => (by exact (pe_meth0 (pe_meth (pv 1) T.cl_World T.m_World_office G_World_office (hr.mono (by decide)) b_World_office .nil pass0 (by exact (pa_cons (pv 6) pa_nil))) T.cl_Office T.m_Office_credit G_Office_credit (hr.mono (by decide)) b_Office_credit .nil pass0)))) (pe_lc (own := [("_law_name", 6)]) (g := gName 6) (tt := tYes) (by rfl) sc_law.nd (pi_list (pe_call0 G_law_names (hr.mono (by decide)) rfl T.g_law_names k_law_names b_law_names .nil pass0)) (blkOk_by (own := [("_law_name", 6)]) (N := ["_law_script", "_law_world", "_law_things", "_law_cell", "_law_used", "_law_thing", "_law_name", "_law_home", "_law_quantity", "_law_t"]) (sc := defScope s_law) (by decide +kernel)) (fun _ _ _ _ _ => (pg_name (i := 6) sc_law.nd rfl (Or.inl rfl))) (fun _ _ _ _ _ => pts_nil) (fun _ _ _ _ _ => (by exact (pe_dget hu (pv 4) (pv 6) (fun _ _ => rfl))))) (nomark _))))))))))), ?_⟩
    obtain ⟨a, ns, I, G, μ, rfl, ha, lk, k⟩ := h
    refine ⟨rfl, fun r hr => ?_⟩
    have s1 := Same.upd (H := H) (o := HO.lst (names4.map V.str)) hr
    have hr1 := upd_same (H := H) (a := r) (o := HO.lst (names4.map V.str))
    have ha1 := sql_keep ha fun u q => s1 _ _ q
    generalize hH1 : upd H r (.lst (names4.map V.str)) = H1 at s1 hr1 ha1 ⊢
    refine fun x dx hx hdx ne => ⟨x, dx, r, rfl, upd_same, ?_, fun H2 W0 A0 ew f0 => ⟨rfl, ?_⟩⟩
    · rw [upd_ne (ne_of_none hr1 hx), upd_ne (ne_of_none hr1 hdx)]
      exact hr1
    have ha2 : SqL K H2 a (ns.map V.int) := sql_keep ha1 fun u q => by
      refine f0.keep a _ ?_ (ne_of_none q hx)
      rw [upd_ne (ne_of_none q hx), upd_ne (ne_of_none q hdx)]
      exact q
    -- the list of things, the script
    refine ⟨Nat.zero_le _, fun z hz => ?_⟩
    have s3 := Same.upd (H := H2) (o := HO.lst []) hz
    have hz3 := upd_same (H := H2) (a := z) (o := HO.lst [])
    have ha3 := sql_keep ha2 fun u q => s3 _ _ q
    have nfz := A0.none hz
    have A3 := A0.same s3
    generalize hH3 : upd H2 z (.lst []) = H3 at s3 hz3 ha3 A3 ⊢
    refine ⟨_, rfl, _, rfl, a, _, rfl, ha3, fun q hq => ?_⟩
    rw [show ((60 : Int)) = ((60 : Nat) : Int) from rfl, cut_take2, ← List.map_take]
    have s4 := Same.upd (H := H3) (o := HO.lst ((ns.take 60).map V.int)) hq
    have hq4 := upd_same (H := H3) (a := q) (o := HO.lst ((ns.take 60).map V.int))
    have hz4 := s4 _ _ hz3
    have A4 := A3.same s4
    have nqz : q ≠ z := fun e => by
      rw [e, hz3] at hq
      cases hq
    have nfq : ¬ LF W0 newW z q := fun f => f.elim (A3.none hq) nqz
    generalize hH4 : upd H3 q (.lst ((ns.take 60).map V.int)) = H4 at s4 hq4 hz4 A4 ⊢
    have hz4' : H4 z = some (.lst (([] : List Str).map V.str)) := hz4
    have st0 := lstp_of (WStp.refl A4) hz4' nfz
    have hcell : (ns.take 60).length ≤ 60 := by
      rw [List.length_take]
      exact Nat.min_le_left _ _
    refine ⟨q, rfl, ⟨_, SqL.of hq4⟩, for_list (K := K) (a := q) (xs := (ns.take 60).map V.int)
      (fun i σ H' => ∃ W X ts v3 v5, σ = [some (.ref a), some (.ref x), some (.ref z), v3, none, v5, none, none, none, none] ∧ W.wa = x ∧ LStp K H4 W0 newW z [] H' W X ts ∧ I i X ts) ⟨W0, newW, [], _, _, rfl, ew, st0, lk.init⟩ ?_ ?_ ?_⟩
    · rintro i σ H' _ ⟨W, X, ts, v3, v5, rfl, ewx, st, hI⟩
      exact SqL.of (st.fr.keep q _ hq4 nfq)
    · rintro i c σ H' hc ⟨W, X, ts, v3, v5, rfl, ewx, st, hI⟩
      obtain ⟨ci, hci, rfl⟩ := list_map_get hc
      have hil := (List.getElem?_eq_some_iff.mp hci).1
      obtain ⟨sml, tl⟩ := lk.sml i X ts hI (by omega)
      refine ⟨_, rfl, _, rfl, _, rfl, W, X, z, ts, ci, by rw [ewx]; rfl, st.at_, sml, st.zl, st.zf, by omega, fun H5 W5 X5 new v hs st5 => ?_⟩
      have hI5 := lk.step i X ts X5 new hI (by omega) hs
      have ew5 := st5.wa.trans ewx
      have stt := st.trans st5
      have A5 := st5.at_
      obtain ⟨sml5, tl5⟩ := lk.sml (i + 1) X5 (ts ++ new) hI5 (by omega)
      have rt5 := lk.right _ _ _ hI5
      have on5 := lk.one _ _ _ hI5
      generalize ts ++ new = ts5 at hI5 stt st5 sml5 tl5 on5
      refine ⟨_, rfl, z, rfl, ⟨_, SqL.of st5.zl⟩, for_list (K := K) (a := z) (xs := ts5.map V.str)
        (fun j σ H' => ∃ v5, σ = [some (.ref a), some (.ref x), some (.ref z), some (.int ci), none, v5, none, none, none, none] ∧ Same H5 H') ⟨_, rfl, Same.rfl'⟩ ?_ ?_ ?_⟩
      · rintro j σ H6 _ ⟨v5, rfl, s6⟩
        exact SqL.of (s6 _ _ st5.zl)
      · rintro j y σ H6 hy ⟨v5, rfl, s6⟩
        obtain ⟨t, ht, rfl⟩ := list_map_get hy
        have ht := List.mem_of_getElem? ht
        refine ⟨_, rfl, _, rfl, W5, X5, t, by rw [ew5]; rfl, A5.same s6, fun p H7 us s7 hp hp7 tu => ?_⟩
        have ul := tu.len
        rw [List.length_map] at ul
        have u1 := on5 t ht
        refine ⟨p, _, rfl, .inl (SqL.of hp7), _, _, rfl, rfl, _, rfl, ifF (decide_eq_false (by omega)) ⟨_, rfl, Same.tr s6 s7⟩⟩
      · rintro σ H6 ⟨v5, rfl, s6⟩
        refine ⟨_, rfl, W5, X5, by rw [ew5]; rfl, A5.same s6, sml5.sm, rt5, fun H7 s7 => ?_⟩
        refine ⟨_, rfl, ifF rfl ⟨W5, X5, ts5, _, _, rfl, ew5, ?_, hI5⟩⟩
        exact stt.trans (lstp_of (WStp.same A5 (Same.tr s6 s7)) stt.zl stt.zf)
    · rintro σ H5 ⟨W, X, ts, v3, v5, rfl, ewx, st, hI⟩
      rw [List.length_map] at hI
      obtain ⟨gX, ck⟩ := lk.calm _ X ts hI hcell
      obtain ⟨d5, hw5⟩ := st.at_.w
      rw [ewx] at hw5
      refine ⟨_, rfl, x, d5, _, rfl, hw5, ln_World_calm _ _, W, X, G ts, μ ts, by rw [ewx]; rfl, st.at_, gX, ck, fun H6 W6 Y n s6 gy hns hap => ?_⟩
      have st6 := lstp_of s6 st.zl st.zf
      have A6 := s6.at_
      have ew6 : W6.wa = x := s6.wa.trans ewx
      have hz6 := st6.zl
      obtain ⟨rtY, crY, pyY⟩ := lk.fin Y ts gy hns hap
      have smY := (ck.sml Y gy).sm
      obtain ⟨_, tsl⟩ := lk.sml _ X ts hI hcell
      -- used
      refine fun d hd => ⟨upd_same, kv4 (fun _ => 0), rfl, by decide, ?_⟩
      have em : mergeK [] (kv4 fun _ => 0) = kv4 fun _ => 0 := by kernel_rfl
      rw [em, upd_upd]
      have s7 := Same.upd (H := H6) (o := HO.dK (kv4 fun _ => 0)) hd
      have hd7 := upd_same (H := H6) (a := d) (o := HO.dK (kv4 fun _ => 0))
      generalize hH7 : upd H6 d (.dK (kv4 fun _ => 0)) = H7 at s7 hd7 ⊢
      refine ⟨_, rfl, z, rfl, ⟨_, SqL.of (s7 _ _ hz6)⟩, for_list (K := K) (a := z) (xs := ts.map V.str)
        (fun i σ H' => ∃ v5 v6 v7 v8, σ = [some (.ref a), some (.ref x), some (.ref z), v3, some (.ref d), v5, v6, v7, v8, none] ∧ Same H6 H' ∧ H' d = some (.dK (kv4 fun o => usedBy Y (ts.take i) o))) ⟨_, _, _, _, rfl, s7, hd7⟩ ?_ ?_ ?_⟩
      · rintro i σ H' _ ⟨v5, v6, v7, v8, rfl, s8, _⟩
        exact SqL.of (s8 _ _ hz6)
      · rintro i y σ H8 hy ⟨v5, v6, v7, v8, rfl, s8, hd8⟩
        obtain ⟨t, ht, rfl⟩ := list_map_get hy
        refine ⟨_, rfl, _, rfl, W6, Y, t, by rw [ew6]; rfl, A6.same s8, fun p H9 us s9 hp hp9 tu => ?_⟩
        have ul := tu.len
        rw [List.length_map] at ul
        have npd : p ≠ d := fun e => by
          rw [e, hd8] at hp
          cases hp
        refine ⟨p, rfl, ⟨_, SqL.of hp9⟩, for_list (K := K) (a := p) (xs := us)
          (fun j σ H' => ∃ v6 v7 v8, σ = [some (.ref a), some (.ref x), some (.ref z), v3, some (.ref d), some (.str t), v6, v7, v8, none] ∧ Same H6 H' ∧ H' p = some (.lst us) ∧ Tups H' us ((users Y t).map uEnc) ∧
            H' d = some (.dK (kv4 fun o => usedBy Y (ts.take i) o + (((users Y t).take j).map fun u => if u.1 = o then u.2.2 else 0).sum))) ⟨_, _, _, rfl, Same.tr s8 s9, hp9, tu, ?_⟩ ?_ ?_ ?_⟩
        · rw [s9 _ _ hd8]
          congr 3
          funext o
          show usedBy Y (ts.take i) o = usedBy Y (ts.take i) o + 0
          omega
        · rintro j σ H' _ ⟨v6, v7, v8, rfl, s10, g1, _⟩
          exact SqL.of g1
        · rintro j y σ H10 hy ⟨v6, v7, v8, rfl, s10, g1, tu2, g2⟩
          obtain ⟨b, row, e1, rfl, e3⟩ := tu2.get hy
          rw [List.getElem?_map] at e1
          obtain ⟨⟨o, hm, qq⟩, hu, rfl⟩ := Option.map_eq_some_iff.mp e1
          have ho : o ∈ names4 := users_nm Y t _ (List.mem_of_getElem? hu)
          have gv := kv4_val (fun o => usedBy Y (ts.take i) o + (((users Y t).take j).map fun u => if u.1 = o then u.2.2 else 0).sum) ho
          refine ⟨b, _, rfl, SqT.of e3, rfl, _, _, rfl, _, _, rfl, _, _, rfl, rfl, ?_⟩
          refine ⟨_, rfl, _, rfl, d, _, rfl, (show DGet _ d (.str o) (some (.int (usedBy Y (ts.take i) o + (((users Y t).take j).map fun u => if u.1 = o then u.2.2 else 0).sum))) from by rw [← gv]; exact DGet.k (k := Sum.inr o) g2), _, rfl, _, _, rfl, rfl, ?_⟩
          refine ⟨_, rfl, _, rfl, d, _, rfl, DPut.k (k := Sum.inr o) g2 (by rw [kv4_len]; exact line7 (by decide)), ?_⟩
          rw [kv4_put _ ho]
          refine ⟨_, _, _, rfl, fun b x w => ?_, (upd_ne npd).trans g1, tu2.mono fun b rr w => (upd_ne (ne_of w g2 (by intro z; cases z))).trans w, ?_⟩
          · rw [upd_ne (ne_of_none w hd)]
            exact s10 _ _ w
          · rw [upd_same]
            congr 3
            funext o2
            rw [take_snoc hu, List.map_append, List.sum_append]
            by_cases e : o2 = o
            · rw [if_pos e, e]
              simp
              omega
            · rw [if_neg e]
              have : ¬ o = o2 := fun z => e z.symm
              simp [this]
        · rintro σ H' ⟨v6, v7, v8, rfl, s10, g1, tu2, g2⟩
          refine ⟨_, _, _, _, rfl, s10, ?_⟩
          rw [ul, List.take_length] at g2
          rw [g2]
          congr 3
          funext o
          rw [take_snoc ht, used_snoc]
      · rintro σ H8 ⟨v5, v6, v7, v8, rfl, s8, hd8⟩
        rw [List.length_map, List.take_length] at hd8
        have A8 := A6.same s8
        have wax : V.ref x = V.ref W6.wa := by rw [ew6]
        -- right, the payments
        refine ⟨_, rfl, W6, Y, by rw [ew6]; rfl, A8, smY, rtY, fun H9 s9 => ?_⟩
        have s89 := Same.tr s8 s9
        refine ⟨_, rfl, iteF ?_⟩
        refine ⟨_, rfl, W6, Y, by rw [ew6]; rfl, A6.same s89, smY, fun p H10 us s10 hp hp10 tp => ?_⟩
        have ul := tp.len
        rw [List.length_map] at ul
        have s80 := Same.tr s89 s10
        refine ⟨p, _, rfl, .inl (SqL.of hp10), ?_⟩
        refine ⟨_, rfl, z, rfl, ⟨_, SqL.of (s80 _ _ hz6)⟩, fun D hD => lc_list (K := K) (a := z) (xs := ts.map V.str) (g := gName 9) (te := tVar 9) (vs := [9]) (tt := fun σ H Q => tCall (spUsers K) [] E0 (tCons (tVar 1) (tCons (tVar 9) tNil)) σ H fun x H' => ∃ k, TruV K x H' k ∧ Q k H')
          (fun i H' => ∃ vs, Same H10 H' ∧ H' D = some (.lst vs) ∧ vs.length = ((ts.take i).filter fun t => !(users Y t).isEmpty).length) ⟨[], Same.upd hD, upd_same, rfl⟩ (fun i H' _ hh => ?_) (fun i y H' hy hh => ?_) (fun H' hh => ?_)⟩
        · obtain ⟨vs, s11, _⟩ := hh
          exact SqL.of (s11 _ _ (s80 _ _ hz6))
        · obtain ⟨vs, s11, hD11, vl⟩ := hh
          obtain ⟨t, ht, rfl⟩ := list_map_get hy
          have til := (List.getElem?_eq_some_iff.mp ht).1
          refine ⟨rfl, ?_⟩
          refine ⟨_, rfl, _, rfl, W6, Y, t, by rw [ew6]; rfl, A6.same (Same.tr s80 s11), fun p2 H12 us2 s12 hp2 hp12 tu => ?_⟩
          have ul2 := tu.len
          rw [List.length_map] at ul2
          refine ⟨_, .inl ⟨_, SqL.of hp12, rfl⟩, ?_⟩
          have hD12 := s12 _ _ hD11
          have vb : vs.length ≤ 1000 := by
            rw [vl]
            have := List.length_filter_le (fun t => !(users Y t).isEmpty) (ts.take i)
            rw [List.length_take] at this
            omega
          cases eu : users Y t with
          | nil =>
            rw [eu] at ul2
            have e0 : us2 = [] := List.length_eq_zero_iff.mp ul2
            subst e0
            refine ifF rfl ⟨vs, Same.tr s11 s12, hD12, ?_⟩
            rw [vl, take_snoc ht, List.filter_append]
            have : ([t] : List Str).filter (fun t => !(users Y t).isEmpty) = [] := by simp [eu]
            rw [this, List.append_nil]
          | cons u0 ur =>
            rw [eu] at ul2
            obtain ⟨y7, r7, e7⟩ : ∃ y7 r7, us2 = y7 :: r7 := by
              cases us2 with
              | nil => cases ul2
              | cons a b => exact ⟨a, b, rfl⟩
            subst e7
            refine ifT rfl ⟨_, rfl, vs, hD12, lt_line (by omega), vs ++ [.str t], fun b o w => ?_, upd_same, ?_⟩
            · rw [upd_ne (ne_of_none w hD)]
              exact s12 _ _ (s11 _ _ w)
            · rw [List.length_append, vl, take_snoc ht, List.filter_append, List.length_append]
              have : ([t] : List Str).filter (fun t => !(users Y t).isEmpty) = [t] := by simp [eu]
              rw [this]
              rfl
        · obtain ⟨vs, s11, hD11, vl⟩ := hh
          rw [List.length_map, List.take_length] at vl
          have elen : (us.length : Int) = (vs.length : Int) := by
            rw [ul, vl, pyY]
          refine ⟨D, _, rfl, .inl (SqL.of hD11), rfl, _, rfl, ifF ?_ ?_⟩
          · rw [elen, decide_eq_true rfl]
            rfl
          have s81 := Same.tr s80 s11
          -- the two lists
          refine ⟨rfl, fun r1 hr1 => ?_⟩
          have s12 := Same.upd (H := H') (o := HO.lst (names4.map V.str)) hr1
          have hr12 := upd_same (H := H') (a := r1) (o := HO.lst (names4.map V.str))
          have hd12 := s12 _ _ (s11 _ _ (s10 _ _ (s9 _ _ hd8)))
          have s82 := Same.tr s81 s12
          generalize hH12 : upd H' r1 (.lst (names4.map V.str)) = H12 at s12 hr12 hd12 s82 ⊢
          refine ⟨r1, rfl, ⟨_, SqL.of hr12⟩, fun D1 hD1 => lc_list (K := K) (a := r1) (xs := names4.map V.str) (g := gName 6) (tt := tYes) (vs := [6]) (te := tMeth (cOffice K) "credit" (spOffCredit K) [] E0 (tMeth (cWorld K) "office" (spWOffice K) [] E0 (tVar 1) (tCons (tVar 6) tNil)) tNil)
            (fun i H' => H' = upd H12 D1 (.lst (((names4.take i).map fun o => (Y.S o).cr).map V.int))) rfl (fun i H' _ hh => ?_) (fun i y H' hy hh => ?_) (fun H' hh => ?_)⟩
          · rw [hh]
            exact SqL.of ((upd_ne (ne_of_none hr12 hD1)).trans hr12)
          · subst hh
            obtain ⟨o, ho1, rfl⟩ := list_map_get hy
            have ho := List.mem_of_getElem? ho1
            have A13 := A6.same (Same.tr s82 (Same.upd (o := HO.lst (((names4.take i).map fun o => (Y.S o).cr).map V.int)) hD1))
            obtain ⟨d13, hw13⟩ := A13.w
            rw [ew6] at hw13
            obtain ⟨e13, hof13⟩ := (A13.off o ho).of
            refine ⟨rfl, _, rfl, x, d13, _, rfl, hw13, ln_World_office _ _, _, rfl, W6, Y, o, by rw [ew6]; rfl, A13, ho, _, e13, _, rfl, hof13, ln_Office_credit _ _ _, W6.Ls o, Y.S o, rfl, A13.off o ho, _, upd_same, ?_, ?_⟩
            · rw [List.length_map, List.length_map]
              exact lt_line (Nat.le_trans (take_len4 names4 i rfl) (by decide))
            · rw [upd_upd, take_snoc ho1, List.map_append, List.map_append]
              rfl
          · subst hh
            rw [List.length_map, List.take_length]
            have s13 := Same.upd (H := H12) (o := HO.lst ((names4.map fun o => (Y.S o).cr).map V.int)) hD1
            have hD13 := upd_same (H := H12) (a := D1) (o := HO.lst ((names4.map fun o => (Y.S o).cr).map V.int))
            have hd13 := s13 _ _ hd12
            generalize hH13 : upd H12 D1 (.lst ((names4.map fun o => (Y.S o).cr).map V.int)) = H13 at s13 hD13 hd13 ⊢
            refine ⟨rfl, fun r2 hr2 => ?_⟩
            have s14 := Same.upd (H := H13) (o := HO.lst (names4.map V.str)) hr2
            have hr14 := upd_same (H := H13) (a := r2) (o := HO.lst (names4.map V.str))
            have hd14 := s14 _ _ hd13
            have hD14 := s14 _ _ hD13
            generalize hH14 : upd H13 r2 (.lst (names4.map V.str)) = H14 at s14 hr14 hd14 hD14 ⊢
            refine ⟨r2, rfl, ⟨_, SqL.of hr14⟩, fun D2 hD2 => lc_list (K := K) (a := r2) (xs := names4.map V.str) (g := gName 6) (tt := tYes) (vs := [6]) (te := tDGet (tVar 4) (tVar 6))
              (fun i H' => H' = upd H14 D2 (.lst (((names4.take i).map fun o => usedBy Y ts o).map V.int))) rfl (fun i H' _ hh => ?_) (fun i y H' hy hh => ?_) (fun H' hh => ?_)⟩
            · rw [hh]
              exact SqL.of ((upd_ne (ne_of_none hr14 hD2)).trans hr14)
            · subst hh
              obtain ⟨o, ho1, rfl⟩ := list_map_get hy
              have ho := List.mem_of_getElem? ho1
              have hd15 := (upd_ne (o := HO.lst (((names4.take i).map fun o => usedBy Y ts o).map V.int)) (ne_of_none hd14 hD2)).trans hd14
              have gv := kv4_val (fun o => usedBy Y ts o) ho
              refine ⟨rfl, _, rfl, _, rfl, d, _, rfl, (show DGet _ d (.str o) (some (.int (usedBy Y ts o))) from by rw [← gv]; exact DGet.k (k := Sum.inr o) hd15), _, upd_same, ?_, ?_⟩
              · rw [List.length_map, List.length_map]
                exact lt_line (Nat.le_trans (take_len4 names4 i rfl) (by decide))
              · rw [upd_upd, take_snoc ho1, List.map_append, List.map_append]
                rfl
            · subst hh
              rw [List.length_map, List.take_length]
              have eL : (names4.map fun o => usedBy Y ts o) = names4.map fun o => (Y.S o).cr := List.map_congr_left fun o ho => (crY o ho).symm
              rw [eL]
              have hD15 := (upd_ne (o := HO.lst ((names4.map fun o => (Y.S o).cr).map V.int)) (ne_of_none hD14 hD2)).trans hD14
              obtain ⟨y1, y2⟩ := ints_same (names4.map fun o => (Y.S o).cr)
              refine ⟨_, _, .lst (SqL.of hD15) (ints_dp _), .lst (SqL.of upd_same) (ints_dp _), y1, y1, ?_⟩
              rw [y2]
              exact k _
end LH
namespace LH
open PySem PySem.Spec PyProof.Rows L2
/-! ### the plain law: what stands of a world -/
/-- where a thing is: at an office, or on its way to one -/
inductive Loc2 where
  | at_ (o : Str)
  | way (r : Str)
structure Gh where
  hm : Str → Str
  qt : Str → Int
  top : Str → Int
  loc : Str → Loc2
def Poss (e : Ent) : Prop := e.st ≠ .unk ∧ e.st ≠ .given
/-- an office knows of a thing's epoch n -/
def Kn (X : WS) (r t : Str) (n : Int) : Prop := ∃ e, (X.S r).get t = some e ∧ e.st ≠ .unk ∧ n ≤ e.ep
def Us (X : WS) (o t : Str) : Prop := ∃ e, (X.S o).get t = some e ∧ e.st = .used
/-- what is said of the epoch n on the way to r -/
def DI (X : WS) (g : Gh) (t r : Str) (n : Int) : Prop := n ≤ g.top t ∧ ((n = g.top t ∧ g.loc t = .way r) ∨ Kn X r t n)
structure EI (X : WS) (ts : List Str) (g : Gh) (o t : Str) (e : Ent) : Prop where
  mem : t ∈ ts
  unk : e.st = .unk → e.home = none ∧ e.qty = 0 ∧ e.ep = 0
  kno : e.st ≠ .unk → e.home = some (g.hm t) ∧ e.qty = g.qt t ∧ 0 ≤ e.ep ∧ e.ep ≤ g.top t
  poss : Poss e → g.loc t = .at_ o ∧ e.ep = g.top t
  giv : e.st = .given → ∃ r, e.rcv = some r ∧ DI X g t r e.ep
  rcv : ∀ r, e.rcv = some r → r ∈ names4
  pd : e.pd = true → e.st = .used ∧ gt (X.S (g.hm t)).ps t = some (o, g.qt t)
  ch : ∀ x ∈ e.ch, (X.S o).get x ≠ none
def LI (X : WS) (g : Gh) : Ltr → Prop
  | .deed s r t h q n => h = g.hm t ∧ q = g.qt t ∧ 0 ≤ n ∧ DI X g t r n
  | .receipt s r t n => 0 ≤ n ∧ n ≤ g.top t
  | .notice s r t => True
  | .noted s r t => True
  | .claim s r t q => r = g.hm t ∧ q = g.qt t ∧ Us X s t
  | .paid s r t q => s = g.hm t ∧ q = g.qt t ∧ gt (X.S s).ps t = some (r, q)
/-- the sum of what has been paid -/
def crs : List (Str × Ent) → Int
  | [] => 0
  | p :: r => (if p.2.pd = true then p.2.qty else 0) + crs r
structure Core (X : WS) (ts : List Str) (g : Gh) : Prop where
  nd : ts.Nodup
  made : ∀ t ∈ ts, ∃ o ∈ names4, ∃ k : Int, 1 ≤ k ∧ k < (X.S o).nx ∧ t = idf o k
  hq : ∀ t ∈ ts, g.hm t ∈ names4 ∧ 1 ≤ g.qt t ∧ g.qt t ≤ 1000000000
  nm : ∀ o ∈ names4, (X.S o).name = o
  nx : ∀ o ∈ names4, 1 ≤ (X.S o).nx
  ek : ∀ o ∈ names4, ((X.S o).es.map (·.1)).Nodup
  pk : ∀ o ∈ names4, ((X.S o).ps.map (·.1)).Nodup
  en : ∀ o ∈ names4, ∀ t e, (X.S o).get t = some e → EI X ts g o t e
  pay : ∀ h ∈ names4, ∀ t o q, gt (X.S h).ps t = some (o, q) → t ∈ ts ∧ o ∈ names4 ∧ h = g.hm t ∧ q = g.qt t ∧ Us X o t
  lt : ∀ l ∈ X.ns, l.snd ∈ names4 ∧ l.rcv ∈ names4 ∧ l.th ∈ ts ∧ LI X g l
  cr : ∀ o ∈ names4, (X.S o).cr = crs (X.S o).es
/-- numbers that bound a world -/
structure Bnd (X : WS) (ts : List Str) (g : Gh) (n : Nat) : Prop where
  len : ts.length ≤ 3 * n
  top : ∀ t ∈ ts, g.top t ≤ n
  nx : ∀ o ∈ names4, (X.S o).nx ≤ 3 * n + 1
  chs : ∀ o ∈ names4, chs (fun _ => false) (X.S o).es ≤ 9 * n
/-! #### one world behind another -/
structure Aft (X : WS) (ts : List Str) (g : Gh) (X' : WS) (g' : Gh) : Prop where
  kn : ∀ r ∈ names4, ∀ t n, Kn X r t n → Kn X' r t n
  us : ∀ o ∈ names4, ∀ t, Us X o t → Us X' o t
  ps : ∀ h ∈ names4, ∀ t v, gt (X.S h).ps t = some v → gt (X'.S h).ps t = some v
  ks : ∀ o ∈ names4, ∀ t, (X.S o).get t ≠ none → (X'.S o).get t ≠ none
  hm : ∀ t ∈ ts, g'.hm t = g.hm t
  qt : ∀ t ∈ ts, g'.qt t = g.qt t
  top : ∀ t ∈ ts, g.top t ≤ g'.top t
  way : ∀ t ∈ ts, ∀ r, g.loc t = .way r → (g'.loc t = .way r ∧ g'.top t = g.top t) ∨ Kn X' r t (g.top t)
  stay : ∀ t ∈ ts, ∀ p ∈ names4, ∀ e e', (X.S p).get t = some e → (X'.S p).get t = some e' → Poss e → Poss e' → g.loc t = .at_ p → g'.loc t = .at_ p ∧ g'.top t = g.top t
theorem Kn.le {X : WS} {r t : Str} {n m : Int} (h : Kn X r t n) (l : m ≤ n) : Kn X r t m := by
  obtain ⟨e, h1, h2, h3⟩ := h
  exact ⟨e, h1, h2, by omega⟩
section
variable {X X' : WS} {ts ts' : List Str} {g g' : Gh}
theorem Aft.di (a : Aft X ts g X' g') {t r : Str} {n : Int} (ht : t ∈ ts) (hr : r ∈ names4) (d : DI X g t r n) : DI X' g' t r n := by
  obtain ⟨l, d⟩ := d
  refine ⟨Int.le_trans l (a.top t ht), ?_⟩
  rcases d with ⟨e, w⟩ | k
  · rcases a.way t ht r w with ⟨w', e'⟩ | k
    · exact .inl ⟨by rw [e, e'], w'⟩
    · exact .inr (by rw [e]; exact k)
  · exact .inr (a.kn r hr t n k)
/-- the same but for what is noted of call-backs and answers -/
structure Sim (e e' : Ent) : Prop where
  st : e'.st = e.st
  home : e'.home = e.home
  qty : e'.qty = e.qty
  ep : e'.ep = e.ep
  rcv : e'.rcv = e.rcv
  pd : e'.pd = e.pd
  ch : e'.ch = e.ch
theorem Sim.refl (e : Ent) : Sim e e := ⟨rfl, rfl, rfl, rfl, rfl, rfl, rfl⟩
/-- an entry that has not changed -/
theorem Aft.ei (a : Aft X ts g X' g') (hq : ∀ t ∈ ts, g.hm t ∈ names4) (sub : ∀ t ∈ ts, t ∈ ts') {o t : Str} {e e' : Ent} (ho : o ∈ names4) (h1 : (X.S o).get t = some e) (h2 : (X'.S o).get t = some e') (sm : Sim e e') (h : EI X ts g o t e) : EI X' ts' g' o t e' where
  mem := sub t h.mem
  unk := fun u => by
    rw [sm.home, sm.qty, sm.ep]
    exact h.unk (by rw [← sm.st]; exact u)
  kno := fun u => by
    obtain ⟨q1, q2, q3, q4⟩ := h.kno (by rw [← sm.st]; exact u)
    rw [sm.home, sm.qty, sm.ep]
    exact ⟨by rw [a.hm t h.mem]; exact q1, by rw [a.qt t h.mem]; exact q2, q3, Int.le_trans q4 (a.top t h.mem)⟩
  poss := fun p => by
    have p0 : Poss e := ⟨by rw [← sm.st]; exact p.1, by rw [← sm.st]; exact p.2⟩
    obtain ⟨q1, q2⟩ := h.poss p0
    obtain ⟨z1, z2⟩ := a.stay t h.mem o ho e e' h1 h2 p0 p q1
    exact ⟨z1, by rw [z2, sm.ep]; exact q2⟩
  giv := fun p => by
    obtain ⟨r, q1, q2⟩ := h.giv (by rw [← sm.st]; exact p)
    rw [sm.rcv, sm.ep]
    exact ⟨r, q1, a.di h.mem (h.rcv r q1) q2⟩
  rcv := fun r q => h.rcv r (by rw [← sm.rcv]; exact q)
  pd := fun p => by
    obtain ⟨q1, q2⟩ := h.pd (by rw [← sm.pd]; exact p)
    refine ⟨by rw [sm.st]; exact q1, ?_⟩
    rw [a.hm t h.mem, a.qt t h.mem]
    exact a.ps _ (hq t h.mem) t _ q2
  ch := fun x hx => a.ks o ho x (h.ch x (by rw [← sm.ch]; exact hx))
theorem Aft.li (a : Aft X ts g X' g') {l : Ltr} (ht : l.th ∈ ts) (hs : l.snd ∈ names4) (hr : l.rcv ∈ names4) (h : LI X g l) : LI X' g' l := by
  cases l with
  | deed s r t hh q n =>
    obtain ⟨q1, q2, q3, q4⟩ := h
    exact ⟨by rw [a.hm t ht]; exact q1, by rw [a.qt t ht]; exact q2, q3, a.di ht hr q4⟩
  | receipt s r t n =>
    obtain ⟨q1, q2⟩ := h
    exact ⟨q1, Int.le_trans q2 (a.top t ht)⟩
  | notice => trivial
  | noted => trivial
  | claim s r t q =>
    obtain ⟨q1, q2, q3⟩ := h
    exact ⟨by rw [a.hm t ht]; exact q1, by rw [a.qt t ht]; exact q2, a.us s hs t q3⟩
  | paid s r t q =>
    obtain ⟨q1, q2, q3⟩ := h
    exact ⟨by rw [a.hm t ht]; exact q1, by rw [a.qt t ht]; exact q2, a.ps s hs t _ q3⟩
/-- the core stands behind a step -/
theorem core_step (c : Core X ts g) (a : Aft X ts g X' g') (sub : ∀ t ∈ ts, t ∈ ts') (nd : ts'.Nodup) (mk : ∀ t ∈ ts', t ∉ ts → ∃ o ∈ names4, ∃ k : Int, 1 ≤ k ∧ k < (X'.S o).nx ∧ t = idf o k) (hq : ∀ t ∈ ts', t ∉ ts → g'.hm t ∈ names4 ∧ 1 ≤ g'.qt t ∧ g'.qt t ≤ 1000000000)
    (nm : ∀ o ∈ names4, (X'.S o).name = o) (nx : ∀ o ∈ names4, (X.S o).nx ≤ (X'.S o).nx) (ek : ∀ o ∈ names4, ((X'.S o).es.map (·.1)).Nodup) (pk : ∀ o ∈ names4, ((X'.S o).ps.map (·.1)).Nodup)
    (en : ∀ o ∈ names4, ∀ t e, (X'.S o).get t = some e → (∃ e0, (X.S o).get t = some e0 ∧ Sim e0 e) ∨ EI X' ts' g' o t e)
    (pay : ∀ h ∈ names4, ∀ t o q, gt (X'.S h).ps t = some (o, q) → gt (X.S h).ps t = some (o, q) ∨ (t ∈ ts' ∧ o ∈ names4 ∧ h = g'.hm t ∧ q = g'.qt t ∧ Us X' o t))
    (lt : ∀ l ∈ X'.ns, l ∈ X.ns ∨ (l.snd ∈ names4 ∧ l.rcv ∈ names4 ∧ l.th ∈ ts' ∧ LI X' g' l)) (cr : ∀ o ∈ names4, (X'.S o).cr = crs (X'.S o).es) : Core X' ts' g' where
  nd := nd
  made := fun t ht => by
    by_cases z : t ∈ ts
    · obtain ⟨o, ho, k, k1, k2, e⟩ := c.made t z
      exact ⟨o, ho, k, k1, Int.lt_of_lt_of_le k2 (nx o ho), e⟩
    · exact mk t ht z
  hq := fun t ht => by
    by_cases z : t ∈ ts
    · rw [a.hm t z, a.qt t z]
      exact c.hq t z
    · exact hq t ht z
  nm := nm
  nx := fun o ho => Int.le_trans (c.nx o ho) (nx o ho)
  ek := ek
  pk := pk
  en := fun o ho t e h => by
    rcases en o ho t e h with ⟨e0, q, sm⟩ | q
    · exact a.ei (fun t ht => (c.hq t ht).1) sub ho q h sm (c.en o ho t e0 q)
    · exact q
  pay := fun h hh t o q p => by
    rcases pay h hh t o q p with w | w
    · obtain ⟨q1, q2, q3, q4, q5⟩ := c.pay h hh t o q w
      exact ⟨sub t q1, q2, by rw [a.hm t q1]; exact q3, by rw [a.qt t q1]; exact q4, a.us o q2 t q5⟩
    · exact w
  lt := fun l hl => by
    rcases lt l hl with w | w
    · obtain ⟨q1, q2, q3, q4⟩ := c.lt l w
      exact ⟨q1, q2, sub _ q3, a.li q3 q1 q2 q4⟩
    · exact w
  cr := cr
end
end LH
namespace LH
open PySem PySem.Spec PyProof.Rows L2
/-! ### lists without repeats -/
theorem sum_erase (f : Str → Int) {a : Str} : ∀ {B : List Str}, a ∈ B → (B.map f).sum = f a + ((B.erase a).map f).sum
  | b :: B, h => by
    by_cases e : b = a
    · subst e
      rw [List.erase_cons_head]
      simp
    · have ih := sum_erase f (a := a) (B := B) ((List.mem_cons.mp h).resolve_left fun z => e z.symm)
      rw [List.erase_cons_tail (by simpa using e), List.map_cons, List.map_cons, List.sum_cons, List.sum_cons, ih]
      omega
theorem nd_len : ∀ {A B : List Str}, A.Nodup → (∀ x ∈ A, x ∈ B) → A.length ≤ B.length
  | [], _, _, _ => Nat.zero_le _
  | a :: A, B, nd, h => by
    rw [List.nodup_cons] at nd
    have ha := h a List.mem_cons_self
    have ih := nd_len (A := A) (B := B.erase a) nd.2 fun x hx => by
      refine (List.mem_erase_of_ne fun e => nd.1 (by rw [← e]; exact hx)).mpr (h x (List.mem_cons_of_mem _ hx))
    rw [List.length_erase_of_mem ha] at ih
    have := List.length_pos_of_mem ha
    rw [List.length_cons]
    omega
theorem sum_pos {f : Str → Int} : ∀ {B : List Str}, (∀ x ∈ B, 0 ≤ f x) → 0 ≤ (B.map f).sum
  | [], _ => Int.le_refl _
  | b :: B, p => by
    have h1 := p b List.mem_cons_self
    have h2 := sum_pos (f := f) (B := B) fun x hx => p x (List.mem_cons_of_mem _ hx)
    rw [List.map_cons, List.sum_cons]
    omega
theorem flat_congr {α β : Type} {f h : α → List β} : ∀ {l : List α}, (∀ a ∈ l, f a = h a) → l.flatMap f = l.flatMap h
  | [], _ => rfl
  | a :: l, k => by
    rw [List.flatMap_cons, List.flatMap_cons, k a List.mem_cons_self, flat_congr fun b hb => k b (List.mem_cons_of_mem _ hb)]
theorem nd_sum {f : Str → Int} : ∀ {A B : List Str}, A.Nodup → (∀ x ∈ A, x ∈ B) → (∀ x ∈ B, 0 ≤ f x) → (A.map f).sum ≤ (B.map f).sum
  | [], B, _, _, p => by
    rw [List.map_nil, List.sum_nil]
    exact sum_pos p
  | a :: A, B, nd, h, p => by
    rw [List.nodup_cons] at nd
    have ha := h a List.mem_cons_self
    have ih := nd_sum (f := f) (A := A) (B := B.erase a) nd.2 (fun x hx => (List.mem_erase_of_ne fun e => nd.1 (by rw [← e]; exact hx)).mpr (h x (List.mem_cons_of_mem _ hx))) fun x hx => p x (List.mem_of_mem_erase hx)
    rw [sum_erase f ha, List.map_cons, List.sum_cons]
    omega
theorem mem_key {α : Type} {l : List (Str × α)} {t : Str} (h : t ∈ l.map (·.1)) : gt l t ≠ none := fun e => none_key e h
/-! ### small -/
structure Num (X : WS) (ts : List Str) (g : Gh) : Prop where
  len : ts.length ≤ 1000
  top : ∀ t ∈ ts, g.top t ≤ 1000000
  nx : ∀ o ∈ names4, (X.S o).nx ≤ 900000
  chs : ∀ o ∈ names4, chs (fun _ => false) (X.S o).es ≤ 800000
  ln : ∀ o ∈ names4, (X.S o).ln ≤ 9000000
section
variable {X : WS} {ts : List Str} {g : Gh}
theorem Core.keys (c : Core X ts g) {o : Str} (ho : o ∈ names4) : ∀ t ∈ (X.S o).es.map (·.1), t ∈ ts := fun t ht => by
  obtain ⟨e, he⟩ := gt_key ht
  exact (c.en o ho t e he).mem
theorem Core.pkeys (c : Core X ts g) {o : Str} (ho : o ∈ names4) : ∀ t ∈ (X.S o).ps.map (·.1), t ∈ ts := fun t ht => by
  obtain ⟨v, hv⟩ := gt_key ht
  obtain ⟨a, b⟩ := v
  exact (c.pay o ho t a b hv).1
theorem Core.eslen (c : Core X ts g) {o : Str} (ho : o ∈ names4) : (X.S o).es.length ≤ ts.length := by
  have := nd_len (c.ek o ho) (c.keys ho)
  rw [List.length_map] at this
  exact this
theorem Core.pslen (c : Core X ts g) {o : Str} (ho : o ∈ names4) : (X.S o).ps.length ≤ ts.length := by
  have := nd_len (c.pk o ho) (c.pkeys ho)
  rw [List.length_map] at this
  exact this
theorem Core.tk (c : Core X ts g) (n : Num X ts g) {t : Str} (ht : t ∈ ts) : Tk t := by
  obtain ⟨o, ho, k, k1, k2, rfl⟩ := c.made t ht
  have := n.nx o ho
  exact idf_tk ho (by omega) (by omega)
theorem Core.eok (c : Core X ts g) (n : Num X ts g) {o t : Str} {e : Ent} (ho : o ∈ names4) (h : (X.S o).get t = some e) : EOk t e := by
  have i := c.en o ho t e h
  obtain ⟨q1, q2, q3⟩ := c.hq t i.mem
  have tp := n.top t i.mem
  have both : e.st = .unk ∨ e.st ≠ .unk := by
    by_cases z : e.st = .unk
    · exact .inl z
    · exact .inr z
  refine ⟨c.tk n i.mem, fun hm e1 => ?_, fun r e1 => name_tk (i.rcv r e1), ?_, ?_, ?_, ?_, fun z => ⟨_, (i.kno z).1⟩, fun z => ?_⟩
  · rcases both with z | z
    · rw [(i.unk z).1] at e1
      cases e1
    · rw [(i.kno z).1] at e1
      cases e1
      exact name_tk q1
  · rcases both with z | z
    · rw [(i.unk z).2.1]
      decide
    · rw [(i.kno z).2.1]
      omega
  · rcases both with z | z
    · rw [(i.unk z).2.1]
      decide
    · rw [(i.kno z).2.1]
      omega
  · rcases both with z | z
    · rw [(i.unk z).2.2]
      decide
    · exact (i.kno z).2.2.1
  · rcases both with z | z
    · rw [(i.unk z).2.2]
      decide
    · have := (i.kno z).2.2.2
      omega
  · obtain ⟨r, q, _⟩ := i.giv z
    exact ⟨r, q⟩
theorem Core.fresh (c : Core X ts g) (n : Num X ts g) {o : Str} (ho : o ∈ names4) {k : Int} (h1 : (X.S o).nx ≤ k) (h2 : k ≤ 1000000) : idf o k ∉ ts := fun m => by
  obtain ⟨p, hp, j, j1, j2, e⟩ := c.made _ m
  have a := c.nx o ho
  have b := n.nx p hp
  obtain ⟨rfl, rfl⟩ := idf_inj ho hp (by omega) (by omega) (by omega) (by omega) e
  omega
theorem Core.small (c : Core X ts g) (n : Num X ts g) : ∀ o ∈ names4, Small (X.S o) := fun o ho => by
  have nm := c.nm o ho
  have a := c.nx o ho
  have l := n.len
  refine ⟨by rw [nm]; exact ho, by omega, n.nx o ho, by have := c.eslen ho; omega, by have := c.pslen ho; omega, n.ln o ho, fun t e h x hx => ?_, n.chs o ho, fun t e h => c.eok n ho h, fun k h1 h2 => ?_, fun p hp => ?_⟩
  · have := (c.en o ho t e h).ch x hx
    cases q : (X.S o).get x with
    | none => exact absurd q this
    | some y => exact key_of q
  · rw [nm]
    refine gt_none fun m => c.fresh n ho h1 h2 (c.keys ho _ m)
  · have q := mem_gt (c.pk o ho) (show (p.1, p.2) ∈ (X.S o).ps from hp)
    exact name_tk (c.pay o ho p.1 p.2.1 p.2.2 q).2.1
theorem Core.lok (c : Core X ts g) (n : Num X ts g) : ∀ l ∈ X.ns, LOk l ∧ l.rcv ∈ names4 := fun l hl => by
  obtain ⟨q1, q2, q3, q4⟩ := c.lt l hl
  obtain ⟨t1, t2, t3, t4, t5, t6⟩ := tk_tags
  have tt := c.tk n q3
  obtain ⟨h1, h2, h3⟩ := c.hq _ q3
  have tp := n.top _ q3
  refine ⟨⟨?_⟩, q2⟩
  cases l with
  | deed s r t h q m =>
    obtain ⟨e1, e2, e3, e4, _⟩ := q4
    subst e1 e2
    exact wk_cons (.str t1) (wk_cons (.str (name_tk q1)) (wk_cons (.str (name_tk q2)) (wk_cons (.str tt) (wk_cons (.str (name_tk h1)) (wk_cons (.int (Int.le_trans (by decide) h2) h3) (wk_cons (.int e3 (Int.le_trans e4 (Int.le_trans tp (by decide)))) wk_nil))))))
  | receipt s r t m =>
    obtain ⟨e3, e4⟩ := q4
    exact wk_cons (.str t2) (wk_cons (.str (name_tk q1)) (wk_cons (.str (name_tk q2)) (wk_cons (.str tt) (wk_cons (.int e3 (Int.le_trans e4 (Int.le_trans tp (by decide)))) wk_nil))))
  | notice s r t => exact wk_cons (.str t3) (wk_cons (.str (name_tk q1)) (wk_cons (.str (name_tk q2)) (wk_cons (.str tt) wk_nil)))
  | noted s r t => exact wk_cons (.str t4) (wk_cons (.str (name_tk q1)) (wk_cons (.str (name_tk q2)) (wk_cons (.str tt) wk_nil)))
  | claim s r t q =>
    obtain ⟨e1, e2, _⟩ := q4
    subst e2
    exact wk_cons (.str t5) (wk_cons (.str (name_tk q1)) (wk_cons (.str (name_tk q2)) (wk_cons (.str tt) (wk_cons (.int (Int.le_trans (by decide) h2) h3) wk_nil))))
  | paid s r t q =>
    obtain ⟨e1, e2, _⟩ := q4
    subst e2
    exact wk_cons (.str t6) (wk_cons (.str (name_tk q1)) (wk_cons (.str (name_tk q2)) (wk_cons (.str tt) (wk_cons (.int (Int.le_trans (by decide) h2) h3) wk_nil))))
/-! ### users, payments -/
theorem Core.used_one (c : Core X ts g) {o p t : Str} (ho : o ∈ names4) (hp : p ∈ names4) (h : Us X o t) (k : Us X p t) : o = p := by
  obtain ⟨e, h1, h2⟩ := h
  obtain ⟨f, k1, k2⟩ := k
  have a := (c.en o ho t e h1).poss ⟨by rw [h2]; decide, by rw [h2]; decide⟩
  have b := (c.en p hp t f k1).poss ⟨by rw [k2]; decide, by rw [k2]; decide⟩
  have := a.1.symm.trans b.1
  injection this
theorem useRow_used {o t : Str} {e : Ent} (h : (X.S o).get t = some e) (u : e.st = .used) : useRow X t o = [(o, e.home, e.qty)] := by
  unfold useRow
  rw [h]
  exact if_pos u
theorem useRow_not {o t : Str} (h : ¬ Us X o t) : useRow X t o = [] := by
  unfold useRow
  cases q : (X.S o).get t with
  | none => rfl
  | some e => exact if_neg fun u => h ⟨e, q, u⟩
theorem flat_one {f : Str → List (Str × Option Str × Int)} {o : Str} {r : Str × Option Str × Int} : ∀ {l : List Str}, l.Nodup → o ∈ l → f o = [r] → (∀ p ∈ l, p ≠ o → f p = []) → l.flatMap f = [r]
  | a :: l, nd, m, h, k => by
    rw [List.nodup_cons] at nd
    rw [List.flatMap_cons]
    by_cases e : a = o
    · subst e
      have z : l.flatMap f = [] := by
        rw [List.flatMap_eq_nil_iff]
        exact fun p hp => k p (List.mem_cons_of_mem _ hp) fun w => nd.1 (by rw [← w]; exact hp)
      rw [h, z, List.append_nil]
    · rw [k a List.mem_cons_self e, List.nil_append]
      exact flat_one nd.2 ((List.mem_cons.mp m).resolve_left fun z => e z.symm) h fun p hp => k p (List.mem_cons_of_mem _ hp)
theorem names_nd : names4.Nodup := by decide +kernel
theorem Core.users_of (c : Core X ts g) {o t : Str} (ho : o ∈ names4) (h : Us X o t) : users X t = [(o, some (g.hm t), g.qt t)] := by
  obtain ⟨e, h1, h2⟩ := id h
  obtain ⟨q1, q2, _⟩ := (c.en o ho t e h1).kno (by rw [h2]; decide)
  refine flat_one names_nd ho ?_ fun p hp ne => useRow_not fun k => ne (c.used_one hp ho k h)
  rw [useRow_used h1 h2, q1, q2]
theorem Core.users_none (c : Core X ts g) {t : Str} (h : ∀ o ∈ names4, ¬ Us X o t) : users X t = [] := by
  unfold users
  rw [List.flatMap_eq_nil_iff]
  exact fun o ho => useRow_not (h o ho)
theorem Core.users_len (c : Core X ts g) (t : Str) : (users X t).length ≤ 1 := by
  by_cases z : ∃ o ∈ names4, Us X o t
  · obtain ⟨o, ho, u⟩ := z
    rw [c.users_of ho u]
    exact Nat.le_refl _
  · rw [c.users_none fun o ho u => z ⟨o, ho, u⟩]
    exact Nat.zero_le _
theorem Core.row (c : Core X ts g) {r : Str × Str × Str × Int} (h : r ∈ payRows X) : ∃ t o q, gt (X.S (g.hm t)).ps t = some (o, q) ∧ r = (g.hm t, t, o, q) ∧ g.hm t ∈ names4 ∧ t ∈ ts ∧ o ∈ names4 ∧ q = g.qt t ∧ Us X o t := by
  obtain ⟨hh, h1, h2⟩ := List.mem_flatMap.mp h
  obtain ⟨p, hp, rfl⟩ := List.mem_map.mp h2
  have q := mem_gt (c.pk hh h1) (show (p.1, p.2) ∈ (X.S hh).ps from hp)
  obtain ⟨q1, q2, q3, q4, q5⟩ := c.pay hh h1 p.1 p.2.1 p.2.2 q
  exact ⟨p.1, p.2.1, p.2.2, by rw [← q3]; exact q, by rw [← q3], by rw [← q3]; exact h1, q1, q2, q4, q5⟩
theorem row_of {h t o : Str} {q : Int} (hh : h ∈ names4) (e : gt (X.S h).ps t = some (o, q)) : (h, t, o, q) ∈ payRows X :=
  List.mem_flatMap.mpr ⟨h, hh, List.mem_map.mpr ⟨(t, o, q), gt_mem e, rfl⟩⟩
theorem nd_flat {f : Str → List Str} : ∀ {l : List Str}, l.Nodup → (∀ o ∈ l, (f o).Nodup) → (∀ o ∈ l, ∀ p ∈ l, ∀ t, t ∈ f o → t ∈ f p → o = p) → (l.flatMap f).Nodup
  | [], _, _, _ => List.nodup_nil
  | a :: l, nd, h, k => by
    rw [List.nodup_cons] at nd
    rw [List.flatMap_cons, List.nodup_append]
    refine ⟨h a List.mem_cons_self, nd_flat nd.2 (fun o ho => h o (List.mem_cons_of_mem _ ho)) fun o ho p hp => k o (List.mem_cons_of_mem _ ho) p (List.mem_cons_of_mem _ hp), fun x hx y hy e => ?_⟩
    subst e
    obtain ⟨b, hb, hx2⟩ := List.mem_flatMap.mp hy
    have := k a List.mem_cons_self b (List.mem_cons_of_mem _ hb) x hx hx2
    exact nd.1 (by rw [this]; exact hb)
theorem Core.rows_nd (c : Core X ts g) : ((payRows X).map (·.2.1)).Nodup := by
  have e : (payRows X).map (·.2.1) = names4.flatMap fun h => (X.S h).ps.map (·.1) := by
    unfold payRows payOf
    rw [List.map_flatMap]
    refine flat_congr fun h _ => ?_
    rw [List.map_map]
    rfl
  rw [e]
  refine nd_flat names_nd (fun h hh => c.pk h hh) fun h hh k hk t ht tk => ?_
  obtain ⟨⟨a, b⟩, ha⟩ := gt_key ht
  obtain ⟨⟨a2, b2⟩, ha2⟩ := gt_key tk
  exact (c.pay h hh t a b ha).2.2.1.trans (c.pay k hk t a2 b2 ha2).2.2.1.symm
end
end LH
namespace LH
open PySem PySem.Spec PyProof.Rows L2
/-! ### all is right -/
section
variable {X : WS} {ts : List Str} {g : Gh}
def pds (es : List (Str × Ent)) : List Str := (es.filter fun p => p.2.pd).map (·.1)
theorem crs_pds {f : Str → Int} : ∀ {es : List (Str × Ent)}, (∀ p ∈ es, p.2.pd = true → p.2.qty = f p.1) → crs es = ((pds es).map f).sum
  | [], _ => rfl
  | p :: r, h => by
    have ih := crs_pds (f := f) (es := r) fun q hq => h q (List.mem_cons_of_mem _ hq)
    show (if p.2.pd = true then p.2.qty else 0) + crs r = _
    unfold pds at ih ⊢
    by_cases z : p.2.pd = true
    · rw [if_pos z, List.filter_cons_of_pos (p := fun p : Str × Ent => p.2.pd) z, List.map_cons, List.map_cons, List.sum_cons, ih, h p List.mem_cons_self z]
    · rw [if_neg z, List.filter_cons_of_neg (p := fun p : Str × Ent => p.2.pd) z, ih]
      omega
def paidTs (rows : List (Str × Str × Str × Int)) (o : Str) : List Str := (rows.filter fun r => decide (r.2.2.1 = o)).map (·.2.1)
theorem paid_sum {f : Str → Int} (o : Str) : ∀ {rows : List (Str × Str × Str × Int)}, (∀ r ∈ rows, r.2.2.2 = f r.2.1) → paidTo rows o = ((paidTs rows o).map f).sum
  | [], _ => rfl
  | r :: rs, h => by
    have ih := paid_sum (f := f) o (rows := rs) fun q hq => h q (List.mem_cons_of_mem _ hq)
    show (if r.2.2.1 = o then r.2.2.2 else 0) + paidTo rs o = _
    unfold paidTs at ih ⊢
    by_cases z : r.2.2.1 = o
    · rw [if_pos z, List.filter_cons_of_pos (by simpa using z), List.map_cons, List.map_cons, List.sum_cons, ih, h r List.mem_cons_self]
    · rw [if_neg z, List.filter_cons_of_neg (by simpa using z), ih]
      omega
theorem Core.crq (c : Core X ts g) {o : Str} (ho : o ∈ names4) : (X.S o).cr = ((pds (X.S o).es).map g.qt).sum := by
  rw [c.cr o ho]
  refine crs_pds fun p hp z => ?_
  have i := c.en o ho p.1 p.2 (mem_gt (c.ek o ho) hp)
  exact (i.kno (by rw [(i.pd z).1]; decide)).2.1
theorem pds_mem {es : List (Str × Ent)} {t : Str} (nd : (es.map (·.1)).Nodup) : t ∈ pds es ↔ ∃ e, gt es t = some e ∧ e.pd = true := by
  constructor
  · intro h
    obtain ⟨p, hp, rfl⟩ := List.mem_map.mp h
    obtain ⟨h1, h2⟩ := List.mem_filter.mp hp
    exact ⟨p.2, mem_gt nd h1, h2⟩
  · rintro ⟨e, h1, h2⟩
    exact List.mem_map.mpr ⟨(t, e), List.mem_filter.mpr ⟨gt_mem h1, h2⟩, rfl⟩
theorem pds_nd {es : List (Str × Ent)} (nd : (es.map (·.1)).Nodup) : (pds es).Nodup := nd.sublist ((List.filter_sublist).map _)
theorem Core.right (c : Core X ts g) : Right X where
  us := fun r h => by
    obtain ⟨t, o, q, h1, rfl, h3, h4, h5, h6, h7⟩ := c.row h
    rw [h6]
    exact c.users_of h5 h7
  nd := c.rows_nd
  nm := fun r h => by
    obtain ⟨t, o, q, h1, rfl, h3, h4, h5, h6, h7⟩ := c.row h
    exact ⟨h3, h5⟩
  cr := fun o ho => by
    have q0 : ∀ t ∈ ts, 0 ≤ g.qt t := fun t ht => Int.le_trans (by decide) (c.hq t ht).2.1
    rw [c.crq ho]
    have e1 : paidTo (payRows X) o = ((paidTs (payRows X) o).map g.qt).sum := paid_sum o fun r h => by
      obtain ⟨t, o2, q, h1, rfl, h3, h4, h5, h6, h7⟩ := c.row h
      exact h6
    have sub : ∀ t ∈ pds (X.S o).es, t ∈ ts := fun t h => by
      obtain ⟨e, h1, h2⟩ := (pds_mem (c.ek o ho)).mp h
      exact (c.en o ho t e h1).mem
    have subB : ∀ t ∈ paidTs (payRows X) o, t ∈ ts := fun t h => by
      obtain ⟨r, hr, rfl⟩ := List.mem_map.mp h
      obtain ⟨t, o2, q, h1, rfl, h3, h4, h5, h6, h7⟩ := c.row (List.mem_filter.mp hr).1
      exact h4
    refine ⟨sum_pos fun t ht => q0 t (sub t ht), ?_⟩
    rw [e1]
    refine nd_sum (pds_nd (c.ek o ho)) (fun t h => ?_) fun t ht => q0 t (subB t ht)
    obtain ⟨e, h1, h2⟩ := (pds_mem (c.ek o ho)).mp h
    have i := c.en o ho t e h1
    have h3 := (i.pd h2).2
    have h4 := (c.hq t i.mem).1
    exact List.mem_map.mpr ⟨_, List.mem_filter.mpr ⟨row_of h4 h3, by simp⟩, rfl⟩
/-! ### when nothing waits -/
theorem Core.used_pd (c : Core X ts g) (h : allpend X = []) {o t : Str} {e : Ent} (ho : o ∈ names4) (he : (X.S o).get t = some e) (u : e.st = .used) : e.pd = true := by
  cases q : e.pd with
  | true => rfl
  | false =>
    have hp : (X.S o).pend = [] := by
      unfold allpend at h
      rw [List.flatMap_eq_nil_iff] at h
      exact h o ho
    unfold OSt.pend at hp
    rw [List.flatMap_eq_nil_iff] at hp
    have := hp (t, e) (gt_mem he)
    unfold letOf at this
    rw [if_pos (show e.st = .used ∧ e.pd = false from ⟨u, q⟩)] at this
    simp at this
theorem used_by (c : Core X ts g) {o : Str} (ho : o ∈ names4) [DecidablePred (Us X o)] : ∀ l : List Str, usedBy X l o = ((l.filter fun t => decide (Us X o t)).map g.qt).sum
  | [] => rfl
  | t :: r => by
    have ih := used_by c ho r
    show ((users X t).map fun u => if u.1 = o then u.2.2 else 0).sum + usedBy X r o = _
    by_cases z : Us X o t
    · rw [List.filter_cons_of_pos (by simpa using z), List.map_cons, List.sum_cons, ih, c.users_of ho z]
      simp
    · rw [List.filter_cons_of_neg (by simpa using z), ih]
      have : ((users X t).map fun u => if u.1 = o then u.2.2 else 0).sum = 0 := by
        by_cases y : ∃ p ∈ names4, Us X p t
        · obtain ⟨p, hp, u⟩ := y
          rw [c.users_of hp u]
          have ne : ¬ p = o := fun e => z (by rw [← e]; exact u)
          simp [ne]
        · rw [c.users_none fun p hp u => y ⟨p, hp, u⟩]
          rfl
      omega
theorem Core.fin_cr (c : Core X ts g) (h : allpend X = []) {o : Str} (ho : o ∈ names4) : (X.S o).cr = usedBy X ts o := by
  have : DecidablePred (Us X o) := fun t => Classical.propDecidable _
  have q0 : ∀ t ∈ ts, 0 ≤ g.qt t := fun t ht => Int.le_trans (by decide) (c.hq t ht).2.1
  rw [c.crq ho, used_by c ho ts]
  have m1 : ∀ t, t ∈ pds (X.S o).es ↔ t ∈ ts.filter fun t => decide (Us X o t) := fun t => by
    rw [pds_mem (c.ek o ho), List.mem_filter]
    constructor
    · rintro ⟨e, h1, h2⟩
      have i := c.en o ho t e h1
      exact ⟨i.mem, decide_eq_true ⟨e, h1, (i.pd h2).1⟩⟩
    · rintro ⟨h1, h2⟩
      obtain ⟨e, h3, h4⟩ := of_decide_eq_true h2
      exact ⟨e, h3, c.used_pd h ho h3 h4⟩
  have n1 := pds_nd (c.ek o ho)
  have n2 : (ts.filter fun t => decide (Us X o t)).Nodup := c.nd.sublist List.filter_sublist
  have p2 : ∀ t ∈ ts.filter (fun t => decide (Us X o t)), 0 ≤ g.qt t := fun t ht => q0 t (List.mem_filter.mp ht).1
  have a := nd_sum (f := g.qt) n1 (fun t ht => (m1 t).mp ht) p2
  have b := nd_sum (f := g.qt) n2 (fun t ht => (m1 t).mpr ht) fun t ht => p2 t ((m1 t).mp ht)
  omega
theorem Core.fin_len (c : Core X ts g) (h : allpend X = []) : (payRows X).length = (ts.filter fun t => !(users X t).isEmpty).length := by
  have e0 : (payRows X).length = ((payRows X).map (·.2.1)).length := by rw [List.length_map]
  rw [e0]
  have n2 : (ts.filter fun t => !(users X t).isEmpty).Nodup := c.nd.sublist List.filter_sublist
  have m1 : ∀ t, t ∈ (payRows X).map (·.2.1) ↔ t ∈ ts.filter fun t => !(users X t).isEmpty := fun t => by
    rw [List.mem_filter]
    constructor
    · intro hm
      obtain ⟨r, hr, rfl⟩ := List.mem_map.mp hm
      obtain ⟨t, o, q, h1, rfl, h3, h4, h5, h6, h7⟩ := c.row hr
      refine ⟨h4, ?_⟩
      rw [c.users_of h5 h7]
      rfl
    · rintro ⟨h1, h2⟩
      by_cases y : ∃ p ∈ names4, Us X p t
      · obtain ⟨p, hp, e, h3, h4⟩ := y
        have h5 := c.used_pd h hp h3 h4
        have i := c.en p hp t e h3
        exact List.mem_map.mpr ⟨_, row_of (c.hq t h1).1 (i.pd h5).2, rfl⟩
      · rw [c.users_none fun p hp u => y ⟨p, hp, u⟩] at h2
        cases h2
  have a := nd_len c.rows_nd fun t ht => (m1 t).mp ht
  have b := nd_len n2 fun t ht => (m1 t).mpr ht
  omega
end
end LH
namespace LH
open PySem PySem.Spec PyProof.Rows L2
/-! ### one office changes -/
section
variable {X : WS} {ts ts' : List Str} {g g' : Gh} {o : Str} {S' : OSt}
theorem put_cases (X : WS) (o p : Str) (S' : OSt) : (p = o ∧ (X.put o S').S p = S') ∨ (p ≠ o ∧ (X.put o S').S p = X.S p) := by
  by_cases e : p = o
  · exact .inl ⟨e, by rw [e]; exact put_S X o S'⟩
  · exact .inr ⟨e, put_S' X S' e⟩
theorem aft_put (ho : o ∈ names4) (get : ∀ t e, (X.S o).get t = some e → ∃ e', S'.get t = some e' ∧ (e.st ≠ .unk → e'.st ≠ .unk ∧ e.ep ≤ e'.ep) ∧ (e.st = .used → e'.st = .used)) (ps : ∀ t v, gt (X.S o).ps t = some v → gt S'.ps t = some v)
    (hm : ∀ t ∈ ts, g'.hm t = g.hm t) (qt : ∀ t ∈ ts, g'.qt t = g.qt t) (top : ∀ t ∈ ts, g.top t ≤ g'.top t)
    (way : ∀ t ∈ ts, ∀ r, g.loc t = .way r → (g'.loc t = .way r ∧ g'.top t = g.top t) ∨ Kn (X.put o S') r t (g.top t))
    (stay : ∀ t ∈ ts, ∀ p ∈ names4, ∀ e e', (X.S p).get t = some e → ((X.put o S').S p).get t = some e' → Poss e → Poss e' → g.loc t = .at_ p → g'.loc t = .at_ p ∧ g'.top t = g.top t) : Aft X ts g (X.put o S') g' where
  kn := fun r hr t n h => by
    obtain ⟨e, h1, h2, h3⟩ := h
    rcases put_cases X o r S' with ⟨rfl, q⟩ | ⟨_, q⟩
    · obtain ⟨e', k1, k2, _⟩ := get t e h1
      obtain ⟨k3, k4⟩ := k2 h2
      exact ⟨e', by rw [q]; exact k1, k3, Int.le_trans h3 k4⟩
    · exact ⟨e, by rw [q]; exact h1, h2, h3⟩
  us := fun r hr t h => by
    obtain ⟨e, h1, h2⟩ := h
    rcases put_cases X o r S' with ⟨rfl, q⟩ | ⟨_, q⟩
    · obtain ⟨e', k1, _, k2⟩ := get t e h1
      exact ⟨e', by rw [q]; exact k1, k2 h2⟩
    · exact ⟨e, by rw [q]; exact h1, h2⟩
  ps := fun r hr t v h => by
    rcases put_cases X o r S' with ⟨rfl, q⟩ | ⟨_, q⟩
    · rw [q]
      exact ps t v h
    · rw [q]
      exact h
  ks := fun r hr t h => by
    rcases put_cases X o r S' with ⟨rfl, q⟩ | ⟨_, q⟩
    · rw [q]
      cases e : (X.S r).get t with
      | none => exact absurd e h
      | some x =>
        obtain ⟨e', k1, _⟩ := get t x e
        rw [k1]
        intro w
        cases w
    · rw [q]
      exact h
  hm := hm
  qt := qt
  top := top
  way := way
  stay := stay
/-- no ghost changes -/
theorem aft_put0 (ho : o ∈ names4) (get : ∀ t e, (X.S o).get t = some e → ∃ e', S'.get t = some e' ∧ (e.st ≠ .unk → e'.st ≠ .unk ∧ e.ep ≤ e'.ep) ∧ (e.st = .used → e'.st = .used)) (ps : ∀ t v, gt (X.S o).ps t = some v → gt S'.ps t = some v) : Aft X ts g (X.put o S') g :=
  aft_put ho get ps (fun _ _ => rfl) (fun _ _ => rfl) (fun _ _ => Int.le_refl _) (fun _ _ _ h => .inl ⟨h, rfl⟩) (fun _ _ _ _ _ _ _ _ _ _ h => ⟨h, rfl⟩)
theorem core_put (c : Core X ts g) (ho : o ∈ names4) (a : Aft X ts g (X.put o S') g') (sub : ∀ t ∈ ts, t ∈ ts') (nd : ts'.Nodup) (mk : ∀ t ∈ ts', t ∉ ts → ∃ k : Int, 1 ≤ k ∧ k < S'.nx ∧ t = idf o k) (hq : ∀ t ∈ ts', t ∉ ts → g'.hm t ∈ names4 ∧ 1 ≤ g'.qt t ∧ g'.qt t ≤ 1000000000)
    (nm : S'.name = (X.S o).name) (nx : (X.S o).nx ≤ S'.nx) (ek : (S'.es.map (·.1)).Nodup) (pk : (S'.ps.map (·.1)).Nodup) (en : ∀ t e, S'.get t = some e → (∃ e0, (X.S o).get t = some e0 ∧ Sim e0 e) ∨ EI (X.put o S') ts' g' o t e)
    (pay : ∀ t p q, gt S'.ps t = some (p, q) → gt (X.S o).ps t = some (p, q) ∨ (t ∈ ts' ∧ p ∈ names4 ∧ o = g'.hm t ∧ q = g'.qt t ∧ Us (X.put o S') p t)) (cr : S'.cr = crs S'.es) : Core (X.put o S') ts' g' := by
  refine core_step c a sub nd (fun t h1 h2 => ?_) hq (fun p hp => ?_) (fun p hp => ?_) (fun p hp => ?_) (fun p hp => ?_) (fun p hp t e h => ?_) (fun p hp t r q h => ?_) (fun l hl => .inl hl) (fun p hp => ?_)
  · obtain ⟨k, k1, k2, e⟩ := mk t h1 h2
    exact ⟨o, ho, k, k1, by rw [put_S]; exact k2, e⟩
  · rcases put_cases X o p S' with ⟨rfl, q⟩ | ⟨_, q⟩
    · rw [q, nm, c.nm p hp]
    · rw [q, c.nm p hp]
  · rcases put_cases X o p S' with ⟨rfl, q⟩ | ⟨_, q⟩
    · rw [q]
      exact nx
    · rw [q]
      exact Int.le_refl _
  · rcases put_cases X o p S' with ⟨rfl, q⟩ | ⟨_, q⟩
    · rw [q]
      exact ek
    · rw [q]
      exact c.ek p hp
  · rcases put_cases X o p S' with ⟨rfl, q⟩ | ⟨_, q⟩
    · rw [q]
      exact pk
    · rw [q]
      exact c.pk p hp
  · rcases put_cases X o p S' with ⟨rfl, q⟩ | ⟨_, q⟩
    · rw [q] at h
      exact en t e h
    · rw [q] at h
      exact .inl ⟨e, h, Sim.refl e⟩
  · rcases put_cases X o p S' with ⟨rfl, w⟩ | ⟨_, w⟩
    · rw [w] at h
      exact pay t r q h
    · rw [w] at h
      exact .inl h
  · rcases put_cases X o p S' with ⟨rfl, q⟩ | ⟨_, q⟩
    · rw [q]
      exact cr
    · rw [q]
      exact c.cr p hp
theorem put_put (X : WS) (o : Str) (A B : OSt) : (X.put o A).put o B = X.put o B := by
  unfold WS.put
  congr 1
  funext p
  by_cases e : p = o
  · simp [e]
  · simp [e]
/-- entries that differ in notes alone -/
theorem core_sim (c : Core X ts g) (ho : o ∈ names4) (fw : ∀ t e, (X.S o).get t = some e → ∃ e', S'.get t = some e' ∧ Sim e e') (bw : ∀ t e', S'.get t = some e' → ∃ e, (X.S o).get t = some e ∧ Sim e e') (nm : S'.name = (X.S o).name) (nx : S'.nx = (X.S o).nx)
    (ek : (S'.es.map (·.1)).Nodup) (ps : S'.ps = (X.S o).ps) (cr : S'.cr = (X.S o).cr) (cs : crs S'.es = crs (X.S o).es) : Core (X.put o S') ts g := by
  refine core_put c ho (aft_put0 ho (fun t e h => ?_) fun t v h => by rw [ps]; exact h) (fun _ h => h) c.nd (fun t h1 h2 => absurd h1 h2) (fun t h1 h2 => absurd h1 h2) nm (by rw [nx]; exact Int.le_refl _) ek (by rw [ps]; exact c.pk o ho) (fun t e h => .inl (bw t e h)) (fun t p q h => .inl (by rw [← ps]; exact h)) (by rw [cr, cs]; exact c.cr o ho)
  obtain ⟨e', h1, sm⟩ := fw t e h
  exact ⟨e', h1, fun u => ⟨by rw [sm.st]; exact u, by rw [sm.ep]; exact Int.le_refl _⟩, fun u => by rw [sm.st]; exact u⟩
theorem core_ln (c : Core X ts g) (ho : o ∈ names4) : Core (X.put o (X.S o).lnup) ts g :=
  core_sim c ho (fun t e h => ⟨e, h, Sim.refl e⟩) (fun t e h => ⟨e, h, Sim.refl e⟩) rfl rfl (c.ek o ho) rfl rfl rfl
/-! letters come and go -/
theorem core_ns (c : Core X ts g) {ns : List Ltr} (h : ∀ l ∈ ns, l ∈ X.ns ∨ (l.snd ∈ names4 ∧ l.rcv ∈ names4 ∧ l.th ∈ ts ∧ LI X g l)) : Core { X with ns := ns } ts g where
  nd := c.nd
  made := c.made
  hq := c.hq
  nm := c.nm
  nx := c.nx
  ek := c.ek
  pk := c.pk
  en := fun o ho t e q => by
    have i := c.en o ho t e q
    exact ⟨i.mem, i.unk, i.kno, i.poss, i.giv, i.rcv, i.pd, i.ch⟩
  pay := c.pay
  lt := fun l hl => by
    rcases h l hl with q | q
    · obtain ⟨q1, q2, q3, q4⟩ := c.lt l q
      refine ⟨q1, q2, q3, ?_⟩
      cases l <;> exact q4
    · obtain ⟨q1, q2, q3, q4⟩ := q
      refine ⟨q1, q2, q3, ?_⟩
      cases l <;> exact q4
  cr := c.cr
theorem core_send (c : Core X ts g) {ls : List Ltr} (h : ∀ l ∈ ls, l.snd ∈ names4 ∧ l.rcv ∈ names4 ∧ l.th ∈ ts ∧ LI X g l) : Core (X.send ls) ts g := core_ns c fun l hl => by
  rcases List.mem_append.mp hl with q | q
  · exact .inl q
  · exact .inr (h l q)
theorem core_drop (c : Core X ts g) (i : Nat) : Core (X.drop i) ts g := core_ns c fun l hl => .inl (List.mem_of_mem_eraseIdx hl)
/-- the letters of an entry -/
theorem letOf_li (c : Core X ts g) (ho : o ∈ names4) {t : Str} {e : Ent} (he : (X.S o).get t = some e) : ∀ l ∈ letOf o t e, l.snd ∈ names4 ∧ l.rcv ∈ names4 ∧ l.th ∈ ts ∧ LI X g l := by
  intro l hl
  have i := c.en o ho t e he
  obtain ⟨q1, q2, q3⟩ := c.hq t i.mem
  unfold letOf at hl
  rcases List.mem_append.mp hl with q | q
  · by_cases z : e.st = .given
    · rw [if_pos z] at q
      obtain ⟨r, h1, h2⟩ := i.giv z
      obtain ⟨k1, k2, k3, k4⟩ := i.kno (by rw [z]; decide)
      have hr := i.rcv r h1
      rcases List.mem_append.mp q with q | q
      · split at q
        · rw [List.mem_singleton.mp q, h1, k1]
          exact ⟨ho, hr, i.mem, rfl, k2, k3, h2⟩
        · cases q
      · split at q
        · rw [List.mem_singleton.mp q, h1]
          exact ⟨ho, hr, i.mem, trivial⟩
        · cases q
    · rw [if_neg z] at q
      cases q
  · split at q
    · next z =>
      obtain ⟨k1, k2, k3, k4⟩ := i.kno (by rw [z.1]; decide)
      rw [List.mem_singleton.mp q, k1]
      exact ⟨ho, q1, i.mem, rfl, k2, e, he, z.1⟩
    · cases q
theorem pend_li (c : Core X ts g) (ho : o ∈ names4) : ∀ l ∈ (X.S o).pend, l.snd ∈ names4 ∧ l.rcv ∈ names4 ∧ l.th ∈ ts ∧ LI X g l := by
  intro l hl
  unfold OSt.pend at hl
  rw [c.nm o ho] at hl
  obtain ⟨p, hp, q⟩ := List.mem_flatMap.mp hl
  exact letOf_li c ho (mem_gt (c.ek o ho) (show (p.1, p.2) ∈ (X.S o).es from hp)) l q
/-! sums over entries -/
theorem crs_app : ∀ a b : List (Str × Ent), crs (a ++ b) = crs a + crs b
  | [], b => by
    show crs b = 0 + crs b
    omega
  | p :: r, b => by
    have ih := crs_app r b
    show (if p.2.pd = true then p.2.qty else 0) + crs (r ++ b) = (if p.2.pd = true then p.2.qty else 0) + crs r + crs b
    omega
theorem crs_md {t : Str} {f : Ent → Ent} : ∀ {es : List (Str × Ent)}, (∀ e, (t, e) ∈ es → (f e).pd = e.pd ∧ (f e).qty = e.qty) → crs (md es t f) = crs es
  | [], _ => rfl
  | p :: r, h => by
    have ih := crs_md (t := t) (f := f) (es := r) fun e he => h e (List.mem_cons_of_mem _ he)
    show (if (if p.1 = t then (p.1, f p.2) else p).2.pd = true then (if p.1 = t then (p.1, f p.2) else p).2.qty else 0) + crs (md r t f) = (if p.2.pd = true then p.2.qty else 0) + crs r
    rw [ih]
    by_cases z : p.1 = t
    · obtain ⟨a, b⟩ := h p.2 (by rw [← z]; exact List.mem_cons_self)
      rw [if_pos z]
      show (if (f p.2).pd = true then (f p.2).qty else 0) + _ = _
      rw [a, b]
    · rw [if_neg z]
theorem crs_same {f : Str → Ent → Ent} : ∀ {es : List (Str × Ent)}, (∀ p ∈ es, (f p.1 p.2).pd = p.2.pd ∧ (f p.1 p.2).qty = p.2.qty) → crs (es.map fun p => (p.1, f p.1 p.2)) = crs es
  | [], _ => rfl
  | p :: r, h => by
    have ih := crs_same (f := f) (es := r) fun q hq => h q (List.mem_cons_of_mem _ hq)
    obtain ⟨a, b⟩ := h p List.mem_cons_self
    show (if (f p.1 p.2).pd = true then (f p.1 p.2).qty else 0) + crs (r.map fun p => (p.1, f p.1 p.2)) = (if p.2.pd = true then p.2.qty else 0) + crs r
    rw [ih, a, b]
theorem crs_pad {t : Str} {e : Ent} : ∀ {es : List (Str × Ent)}, (es.map (·.1)).Nodup → gt es t = some e → e.pd = false → crs (md es t pdF) = crs es + e.qty
  | p :: r, nd, h, q => by
    rw [List.map_cons, List.nodup_cons] at nd
    show (if (if p.1 = t then (p.1, pdF p.2) else p).2.pd = true then (if p.1 = t then (p.1, pdF p.2) else p).2.qty else 0) + crs (md r t pdF) = (if p.2.pd = true then p.2.qty else 0) + crs r + e.qty
    by_cases z : p.1 = t
    · rw [gt_pos z] at h
      cases h
      have e2 : crs (md r t pdF) = crs r := crs_md fun x hx => absurd (List.mem_map.mpr ⟨_, hx, rfl⟩) (by rw [← z]; exact nd.1)
      rw [if_pos z, e2, q]
      show p.2.qty + crs r = 0 + crs r + p.2.qty
      omega
    · rw [gt_neg z] at h
      have ih := crs_pad nd.2 h q
      rw [if_neg z, ih]
      omega
end
end LH
namespace LH
open PySem PySem.Spec PyProof.Rows L2
/-! ### the small steps of an office -/
section
variable {X : WS} {ts ts' : List Str} {g g' : Gh} {o : Str} {S' : OSt}
theorem crs_md2 {t : Str} {f : Ent → Ent} : ∀ {es : List (Str × Ent)}, (∀ e, (t, e) ∈ es → (f e).pd = e.pd ∧ (e.pd = true → (f e).qty = e.qty)) → crs (md es t f) = crs es
  | [], _ => rfl
  | p :: r, h => by
    have ih := crs_md2 (t := t) (f := f) (es := r) fun e he => h e (List.mem_cons_of_mem _ he)
    show (if (if p.1 = t then (p.1, f p.2) else p).2.pd = true then (if p.1 = t then (p.1, f p.2) else p).2.qty else 0) + crs (md r t f) = (if p.2.pd = true then p.2.qty else 0) + crs r
    rw [ih]
    by_cases z : p.1 = t
    · obtain ⟨a, b⟩ := h p.2 (by rw [← z]; exact List.mem_cons_self)
      rw [if_pos z]
      show (if (f p.2).pd = true then (f p.2).qty else 0) + _ = _
      rw [a]
      by_cases w : p.2.pd = true
      · rw [if_pos w, if_pos w, b w]
      · rw [if_neg w, if_neg w]
    · rw [if_neg z]
theorem es_md {S : OSt} {t u : Str} {f : Ent → Ent} (he : S'.es = md S.es t f) : S'.get u = (S.get u).map fun x => if u = t then f x else x := by
  show gt S'.es u = _
  rw [he]
  exact gt_md f t u S.es
/-- one entry changes -/
theorem core_mod (c : Core X ts g) (ho : o ∈ names4) {t : Str} {e : Ent} {f : Ent → Ent} (he : (X.S o).get t = some e) (es : S'.es = md (X.S o).es t f) (ps : S'.ps = (X.S o).ps) (nx : S'.nx = (X.S o).nx) (nm : S'.name = (X.S o).name) (cr : S'.cr = crs S'.es)
    (h1 : e.st ≠ .unk → (f e).st ≠ .unk ∧ e.ep ≤ (f e).ep) (h2 : e.st = .used → (f e).st = .used) (hm : g'.hm = g.hm) (qt : g'.qt = g.qt) (oth : ∀ u, u ≠ t → g'.top u = g.top u ∧ g'.loc u = g.loc u) (top : g.top t ≤ g'.top t)
    (way : ∀ r, g.loc t = .way r → (g'.loc t = .way r ∧ g'.top t = g.top t) ∨ (r = o ∧ (f e).st ≠ .unk ∧ g.top t ≤ (f e).ep)) (stay : ∀ p, g.loc t = .at_ p → (g'.loc t = .at_ p ∧ g'.top t = g.top t) ∨ (p = o ∧ ¬ Poss (f e))) (ei : EI (X.put o S') ts g' o t (f e)) : Core (X.put o S') ts g' := by
  have get : ∀ u x, (X.S o).get u = some x → S'.get u = some (if u = t then f x else x) := fun u x h => by
    rw [es_md es, h]
    rfl
  have me : S'.get t = some (f e) := by
    rw [get t e he, if_pos rfl]
  refine core_put c ho (aft_put ho (fun u x h => ?_) (fun u v h => by rw [ps]; exact h) (fun _ _ => by rw [hm]) (fun _ _ => by rw [qt]) (fun u hu => ?_) (fun u hu r h => ?_) (fun u hu p hp x x' h3 h4 p3 p4 h5 => ?_)) (fun _ h => h) c.nd (fun u a b => absurd a b) (fun u a b => absurd a b) nm (by rw [nx]; exact Int.le_refl _)
    (by rw [es, md_keys]; exact c.ek o ho) (by rw [ps]; exact c.pk o ho) (fun u x h => ?_) (fun u p q h => .inl (by rw [← ps]; exact h)) cr
  · by_cases z : u = t
    · subst z
      rw [he] at h
      cases h
      exact ⟨_, me, h1, h2⟩
    · exact ⟨x, by rw [get u x h, if_neg z], fun w => ⟨w, Int.le_refl _⟩, fun w => w⟩
  · by_cases z : u = t
    · rw [z]
      exact top
    · rw [(oth u z).1]
      exact Int.le_refl _
  · by_cases z : u = t
    · subst z
      rcases way r h with q | ⟨rfl, q1, q2⟩
      · exact .inl q
      · exact .inr ⟨_, by rw [put_S]; exact me, q1, q2⟩
    · exact .inl ⟨by rw [(oth u z).2]; exact h, (oth u z).1⟩
  · by_cases z : u = t
    · subst z
      rcases stay p h5 with q | ⟨rfl, q⟩
      · exact q
      · rw [put_S, me] at h4
        cases h4
        exact absurd p4 q
    · exact ⟨by rw [(oth u z).2]; exact h5, (oth u z).1⟩
  · by_cases z : u = t
    · subst z
      rw [me] at h
      cases h
      exact .inr ei
    · rw [es_md es] at h
      cases q : (X.S o).get u with
      | none =>
        rw [q] at h
        cases h
      | some y =>
        rw [q] at h
        have h : some (if u = t then f y else y) = some x := h
        rw [if_neg z] at h
        cases h
        exact .inl ⟨_, rfl, Sim.refl _⟩
theorem mem_get (c : Core X ts g) (ho : o ∈ names4) {t : Str} {e x : Ent} (he : (X.S o).get t = some e) (hx : (t, x) ∈ (X.S o).es) : x = e := by
  have := mem_gt (c.ek o ho) hx
  have he : gt (X.S o).es t = some e := he
  rw [this] at he
  exact Option.some.inj he
/-- keys stand -/
theorem keys_put (es : S'.es = md (X.S o).es t f) : ∀ x, (X.S o).get x ≠ none → ((X.put o S').S o).get x ≠ none := fun x h => by
  rw [put_S, es_md es]
  cases q : (X.S o).get x with
  | none => exact absurd q h
  | some y =>
    intro w
    cases w
def Gh.give (g : Gh) (t r : Str) : Gh := { g with top := fun u => if u = t then g.top t + 1 else g.top u, loc := fun u => if u = t then .way r else g.loc u }
def Gh.got (g : Gh) (t o : Str) : Gh := { g with loc := fun u => if u = t then .at_ o else g.loc u }
def Gh.new (g : Gh) (t h : Str) (q : Int) (o : Str) : Gh := ⟨fun u => if u = t then h else g.hm u, fun u => if u = t then q else g.qt u, fun u => if u = t then 1 else g.top u, fun u => if u = t then .at_ o else g.loc u⟩
/-- held, then used, split, joined (or held with more children) -/
theorem core_hold (c : Core X ts g) (ho : o ∈ names4) {t : Str} {e : Ent} {f : Ent → Ent} (he : (X.S o).get t = some e) (hh : e.st ≠ .unk ∧ e.st ≠ .given ∧ e.st ≠ .used) (es : S'.es = md (X.S o).es t f) (ps : S'.ps = (X.S o).ps) (nx : S'.nx = (X.S o).nx) (nm : S'.name = (X.S o).name) (cr : S'.cr = (X.S o).cr)
    (p : Poss (f e)) (s : (f e).home = e.home ∧ (f e).qty = e.qty ∧ (f e).ep = e.ep ∧ (f e).rcv = e.rcv ∧ (f e).pd = e.pd) (ch : ∀ x ∈ (f e).ch, (X.S o).get x ≠ none) : Core (X.put o S') ts g := by
  have i := c.en o ho t e he
  obtain ⟨s1, s2, s3, s4, s5⟩ := s
  have pe : Poss e := ⟨hh.1, hh.2.1⟩
  have npd : e.pd = true → False := fun z => hh.2.2 (i.pd z).1
  refine core_mod c ho he es ps nx nm ?_ (fun _ => ⟨p.1, by rw [s3]; exact Int.le_refl _⟩) (fun z => absurd z hh.2.2) rfl rfl (fun _ _ => ⟨rfl, rfl⟩) (Int.le_refl _) (fun r h => .inl ⟨h, rfl⟩) (fun r h => .inl ⟨h, rfl⟩) ?_
  · rw [cr, es, crs_md2 fun x hx => ?_]
    · exact c.cr o ho
    · rw [mem_get c ho he hx]
      exact ⟨s5, fun z => (npd z).elim⟩
  · refine ⟨i.mem, fun z => absurd z p.1, fun _ => ?_, fun _ => ?_, fun z => absurd z p.2, fun r q => i.rcv r (by rw [← s4]; exact q), fun z => ?_, fun x hx => keys_put es x (ch x hx)⟩
    · rw [s1, s2, s3]
      exact i.kno pe.1
    · rw [s3]
      exact i.poss pe
    · rw [s5] at z
      exact (npd z).elim
/-- given away -/
theorem core_give (c : Core X ts g) (ho : o ∈ names4) {t r : Str} {e : Ent} (hr : r ∈ names4) (he : (X.S o).get t = some e) (hh : e.st = .held) (es : S'.es = md (X.S o).es t (giveF (e.ep + 1) r)) (ps : S'.ps = (X.S o).ps) (nx : S'.nx = (X.S o).nx) (nm : S'.name = (X.S o).name) (cr : S'.cr = (X.S o).cr) :
    Core (X.put o S') ts (g.give t r) := by
  have i := c.en o ho t e he
  have pe : Poss e := ⟨by rw [hh]; decide, by rw [hh]; decide⟩
  obtain ⟨l1, l2⟩ := i.poss pe
  obtain ⟨k1, k2, k3, k4⟩ := i.kno pe.1
  have npd : e.pd = true → False := fun z => by
    have := (i.pd z).1
    rw [hh] at this
    cases this
  have t1 : (g.give t r).top t = g.top t + 1 := if_pos rfl
  have t2 : (g.give t r).loc t = .way r := if_pos rfl
  refine core_mod c ho he es ps nx nm ?_ (fun _ => ⟨(by intro w; cases w), ?_⟩) (fun z => by rw [hh] at z; cases z) rfl rfl (fun u z => ⟨if_neg z, if_neg z⟩) (by rw [t1]; omega) (fun r2 h => ?_) (fun p h => ?_) ?_
  · rw [cr, es, crs_md2 fun x hx => ?_]
    · exact c.cr o ho
    · rw [mem_get c ho he hx]
      exact ⟨rfl, fun _ => rfl⟩
  · show e.ep ≤ e.ep + 1
    omega
  · rw [l1] at h
    cases h
  · rw [l1] at h
    cases h
    exact .inr ⟨rfl, fun z => z.2 rfl⟩
  · refine ⟨i.mem, (fun z => by cases z), fun _ => ⟨k1, k2, ?_, ?_⟩, fun z => absurd rfl z.2, fun _ => ⟨r, rfl, ?_, .inl ⟨?_, t2⟩⟩, fun r2 q => ?_, fun z => (npd z).elim, fun x hx => keys_put es x (i.ch x hx)⟩
    · show 0 ≤ e.ep + 1
      omega
    · rw [t1]
      show e.ep + 1 ≤ _
      omega
    · rw [t1]
      show e.ep + 1 ≤ _
      omega
    · rw [t1]
      show e.ep + 1 = _
      omega
    · cases q
      exact hr
/-- a thing comes -/
theorem core_got (c : Core X ts g) (ho : o ∈ names4) {t : Str} {e : Ent} {n : Int} (he : (X.S o).get t = some e) (hh : e.st = .unk ∨ e.st = .given) (n0 : 0 ≤ n) (di : DI X g t o n) (nk : ¬ Kn X o t n) (es : S'.es = md (X.S o).es t (gotF (g.hm t) (g.qt t) n)) (ps : S'.ps = (X.S o).ps) (nx : S'.nx = (X.S o).nx) (nm : S'.name = (X.S o).name) (cr : S'.cr = (X.S o).cr) :
    Core (X.put o S') ts (g.got t o) := by
  have i := c.en o ho t e he
  obtain ⟨d1, d2⟩ := di
  obtain ⟨d2, d3⟩ := d2.resolve_right nk
  have npd : e.pd = true → False := fun z => by
    have := (i.pd z).1
    rcases hh with w | w <;> rw [w] at this <;> cases this
  have t2 : (g.got t o).loc t = .at_ o := if_pos rfl
  refine core_mod c ho he es ps nx nm ?_ (fun u => ⟨(by intro w; cases w), ?_⟩) (fun z => ?_) rfl rfl (fun u z => ⟨rfl, if_neg z⟩) (Int.le_refl _) (fun r2 h => ?_) (fun p h => ?_) ?_
  · rw [cr, es, crs_md2 fun x hx => ?_]
    · exact c.cr o ho
    · rw [mem_get c ho he hx]
      exact ⟨rfl, fun z => (npd z).elim⟩
  · show e.ep ≤ n
    by_cases w : e.ep ≤ n
    · exact w
    · exact absurd ⟨e, he, u, by omega⟩ nk
  · rcases hh with w | w <;> rw [w] at z <;> cases z
  · rw [d3] at h
    cases h
    exact .inr ⟨rfl, (by intro w; cases w), by show g.top t ≤ n; omega⟩
  · rw [d3] at h
    cases h
  · exact ⟨i.mem, (fun z => by cases z), fun _ => ⟨rfl, rfl, n0, d1⟩, fun _ => ⟨t2, d2⟩, (fun z => by cases z), i.rcv, fun z => (npd z).elim, fun x hx => keys_put es x (i.ch x hx)⟩
end
end LH
namespace LH
open PySem PySem.Spec PyProof.Rows L2
section
variable {X : WS} {ts ts' : List Str} {g g' : Gh} {o : Str} {S' : OSt}
theorem core_none (c : Core X ts g) (ho : o ∈ names4) {t : Str} (h : t ∉ ts) : (X.S o).get t = none := by
  cases q : (X.S o).get t with
  | none => rfl
  | some e => exact absurd (c.en o ho t e q).mem h
theorem snoc_nd {l : List Str} {t : Str} (nd : l.Nodup) (h : t ∉ l) : (l ++ [t]).Nodup := by
  rw [List.nodup_append]
  refine ⟨nd, by simp, fun a ha b hb e => ?_⟩
  rw [List.mem_singleton.mp hb] at e
  exact h (by rw [← e]; exact ha)
/-- a new thing -/
theorem core_new (c : Core X ts g) (ho : o ∈ names4) {h : Str} {q : Int} (hh : h ∈ names4) (q1 : 1 ≤ q) (q2 : q ≤ 1000000000) (fr : idf o (X.S o).nx ∉ ts) : Core (X.put o ((X.S o).begin_ (idf o (X.S o).nx) (some h) q)) (ts ++ [idf o (X.S o).nx]) (g.new (idf o (X.S o).nx) h q o) := by
  have nx1 := c.nx o ho
  generalize ei : idf o (X.S o).nx = id at fr ⊢
  have hn := core_none c ho fr
  have get : ∀ u, ((X.S o).begin_ id (some h) q).get u = if u = id then some { Ent.new with home := some h, qty := q, ep := 1, st := .held } else (X.S o).get u := fun u => begin_get (some h) q u hn
  have ne : ∀ u ∈ ts, u ≠ id := fun u hu e => fr (by rw [← e]; exact hu)
  have nek : ∀ u e, (X.S o).get u = some e → u ≠ id := fun u e he w => by
    rw [w, hn] at he
    cases he
  have old : ∀ u e, (X.S o).get u = some e → ((X.S o).begin_ id (some h) q).get u = some e := fun u e he => by
    rw [get u, if_neg (nek u e he)]
    exact he
  refine core_put c ho (aft_put ho (fun u e he => ⟨e, old u e he, fun w => ⟨w, Int.le_refl _⟩, fun w => w⟩) (fun u v hv => hv) (fun u hu => if_neg (ne u hu)) (fun u hu => if_neg (ne u hu)) (fun u hu => ?_) (fun u hu r w => .inl ⟨?_, if_neg (ne u hu)⟩) (fun u hu p hp e e' h1 h2 h3 h4 h5 => ⟨?_, if_neg (ne u hu)⟩))
    (fun u hu => List.mem_append_left _ hu) (snoc_nd c.nd fr) (fun u hu nu => ?_) (fun u hu nu => ?_) rfl (by show (X.S o).nx ≤ (X.S o).nx + 1; omega) ?_ (c.pk o ho) (fun u e he => ?_) (fun u p r hp => .inl hp) ?_
  · show g.top u ≤ if u = id then 1 else g.top u
    rw [if_neg (ne u hu)]
    exact Int.le_refl _
  · show (if u = id then Loc2.at_ o else g.loc u) = _
    rw [if_neg (ne u hu)]
    exact w
  · show (if u = id then Loc2.at_ o else g.loc u) = _
    rw [if_neg (ne u hu)]
    exact h5
  · have : u = id := (List.mem_append.mp hu).elim (fun w => absurd w nu) fun w => List.mem_singleton.mp w
    exact ⟨(X.S o).nx, nx1, by show (X.S o).nx < (X.S o).nx + 1; omega, by rw [this, ei]⟩
  · have : u = id := (List.mem_append.mp hu).elim (fun w => absurd w nu) fun w => List.mem_singleton.mp w
    show (if u = id then h else g.hm u) ∈ names4 ∧ 1 ≤ (if u = id then q else g.qt u) ∧ (if u = id then q else g.qt u) ≤ 1000000000
    rw [if_pos this, if_pos this]
    exact ⟨hh, q1, q2⟩
  · have : ((X.S o).begin_ id (some h) q).es.map (·.1) = (X.S o).es.map (·.1) ++ [id] := add_keys
    rw [this]
    exact snoc_nd (c.ek o ho) (none_key hn)
  · by_cases z : u = id
    · rw [get u, if_pos z] at he
      cases he
      refine .inr ⟨List.mem_append_right _ (by rw [z]; exact List.mem_singleton.mpr rfl), (fun w => by cases w), fun _ => ⟨?_, ?_, by show (0 : Int) ≤ 1; decide, ?_⟩, fun _ => ⟨if_pos z, ?_⟩, (fun w => by cases w), (fun r w => by cases w), (fun w => by cases w), fun x hx => by cases hx⟩
      · show some h = some (if u = id then h else g.hm u)
        rw [if_pos z]
      · show q = if u = id then q else g.qt u
        rw [if_pos z]
      · show (1 : Int) ≤ if u = id then 1 else g.top u
        rw [if_pos z]
        exact Int.le_refl _
      · show (1 : Int) = if u = id then 1 else g.top u
        rw [if_pos z]
    · rw [get u, if_neg z] at he
      exact .inl ⟨e, he, Sim.refl e⟩
  · show (X.S o).cr = crs ((X.S o).es ++ [(id, _)])
    rw [crs_app, c.cr o ho]
    show crs (X.S o).es = crs (X.S o).es + ((if false = true then q else 0) + 0)
    simp
/-- a thing is heard of -/
theorem core_know (c : Core X ts g) (ho : o ∈ names4) {t : Str} (ht : t ∈ ts) : Core (X.put o ((X.S o).know t)) ts g := by
  cases hn : (X.S o).get t with
  | some e =>
    rw [know_some hn]
    exact core_sim c ho (fun t e h => ⟨e, h, Sim.refl e⟩) (fun t e h => ⟨e, h, Sim.refl e⟩) rfl rfl (c.ek o ho) rfl rfl rfl
  | none =>
    rw [know_none hn]
    have get : ∀ u, ((X.S o).add t Ent.new).get u = if u = t then some Ent.new else (X.S o).get u := fun u => add_get _ u hn
    have old : ∀ u e, (X.S o).get u = some e → ((X.S o).add t Ent.new).get u = some e := fun u e he => by
      have : u ≠ t := fun w => by
        rw [w, hn] at he
        cases he
      rw [get u, if_neg this]
      exact he
    refine core_put c ho (aft_put0 ho (fun u e he => ⟨e, old u e he, fun w => ⟨w, Int.le_refl _⟩, fun w => w⟩) fun u v hv => hv) (fun _ h => h) c.nd (fun u a b => absurd a b) (fun u a b => absurd a b) rfl (Int.le_refl _) ?_ (c.pk o ho) (fun u e he => ?_) (fun u p r hp => .inl hp) ?_
    · rw [add_keys]
      exact snoc_nd (c.ek o ho) (none_key hn)
    · by_cases z : u = t
      · rw [get u, if_pos z] at he
        cases he
        refine .inr ⟨by rw [z]; exact ht, fun _ => ⟨rfl, rfl, rfl⟩, fun w => absurd rfl w, fun w => absurd rfl w.1, (fun w => by cases w), (fun r w => by cases w), (fun w => by cases w), fun x hx => by cases hx⟩
      · rw [get u, if_neg z] at he
        exact .inl ⟨e, he, Sim.refl e⟩
    · show (X.S o).cr = crs ((X.S o).es ++ [(t, Ent.new)])
      rw [crs_app, c.cr o ho]
      show crs (X.S o).es = crs (X.S o).es + ((if false = true then (0 : Int) else 0) + 0)
      simp
theorem flag_sim (e : Ent) (b : Bool) : Sim e (e.flag b) := ⟨rfl, rfl, rfl, rfl, rfl, rfl, rfl⟩
theorem core_setcb (c : Core X ts g) (ho : o ∈ names4) (f : Str → Bool) : Core (X.put o ((X.S o).setcb f)) ts g := by
  refine core_sim c ho (fun t e h => ⟨e.flag (f t), by rw [setcb_get, h]; rfl, flag_sim e _⟩) (fun t e' h => ?_) rfl rfl (by rw [setcb_keys]; exact c.ek o ho) rfl rfl ?_
  · rw [setcb_get] at h
    cases q : (X.S o).get t with
    | none =>
      rw [q] at h
      cases h
    | some e =>
      rw [q] at h
      cases h
      exact ⟨e, rfl, flag_sim e _⟩
  · exact crs_same (f := fun t e => e.flag (f t)) fun p _ => ⟨rfl, rfl⟩
/-- a note on one entry -/
theorem core_note (c : Core X ts g) (ho : o ∈ names4) {t : Str} {f : Ent → Ent} (sf : ∀ e, Sim e (f e)) (es : S'.es = md (X.S o).es t f) (ps : S'.ps = (X.S o).ps) (nx : S'.nx = (X.S o).nx) (nm : S'.name = (X.S o).name) (cr : S'.cr = (X.S o).cr) : Core (X.put o S') ts g := by
  refine core_sim c ho (fun u e h => ⟨if u = t then f e else e, by rw [es_md es, h]; rfl, ?_⟩) (fun u e' h => ?_) nm nx (by rw [es, md_keys]; exact c.ek o ho) ps cr (by rw [es]; exact crs_md fun e _ => ⟨(sf e).pd, (sf e).qty⟩)
  · by_cases z : u = t
    · rw [if_pos z]
      exact sf e
    · rw [if_neg z]
      exact Sim.refl e
  · rw [es_md es] at h
    cases q : (X.S o).get u with
    | none =>
      rw [q] at h
      cases h
    | some e =>
      rw [q] at h
      have h : some (if u = t then f e else e) = some e' := h
      refine ⟨e, rfl, ?_⟩
      by_cases z : u = t
      · rw [if_pos z] at h
        rw [← Option.some.inj h]
        exact sf e
      · rw [if_neg z] at h
        rw [← Option.some.inj h]
        exact Sim.refl e
/-- a claim is paid -/
theorem core_pay (c : Core X ts g) (ho : o ∈ names4) {t p : Str} (hn : gt (X.S o).ps t = none) (ht : t ∈ ts) (hp : p ∈ names4) (h1 : o = g.hm t) (u : Us X p t) (es : S'.es = (X.S o).es) (ps : S'.ps = (X.S o).ps ++ [(t, p, g.qt t)]) (nx : S'.nx = (X.S o).nx) (nm : S'.name = (X.S o).name) (cr : S'.cr = (X.S o).cr) : Core (X.put o S') ts g := by
  have get : ∀ u, S'.get u = (X.S o).get u := fun u => by
    show gt S'.es u = _
    rw [es]
    rfl
  have a : Aft X ts g (X.put o S') g := aft_put0 ho (fun u e he => ⟨e, by rw [get u]; exact he, fun w => ⟨w, Int.le_refl _⟩, fun w => w⟩) fun u v hv => by
    rw [ps, gt_snoc _ _ _ _ hn]
    have : u ≠ t := fun w => by
      rw [w, hn] at hv
      cases hv
    rw [if_neg this]
    exact hv
  refine core_put c ho a (fun _ h => h) c.nd (fun u a b => absurd a b) (fun u a b => absurd a b) nm (by rw [nx]; exact Int.le_refl _) (by rw [es]; exact c.ek o ho) ?_ (fun u e he => .inl ⟨e, by rw [← get u]; exact he, Sim.refl e⟩) (fun v r q hv => ?_) (by rw [cr, es]; exact c.cr o ho)
  · rw [ps, List.map_append]
    exact snoc_nd (c.pk o ho) (none_key hn)
  · rw [ps, gt_snoc _ _ _ _ hn] at hv
    by_cases z : v = t
    · rw [if_pos z] at hv
      cases hv
      rw [z]
      exact .inr ⟨ht, hp, h1, rfl, a.us p hp t u⟩
    · rw [if_neg z] at hv
      exact .inl hv
/-- a payment comes -/
theorem core_pad (c : Core X ts g) (ho : o ∈ names4) {t : Str} {e : Ent} (he : (X.S o).get t = some e) (hu : e.st = .used) (hp : e.pd = false) (pd : gt (X.S (g.hm t)).ps t = some (o, g.qt t)) (es : S'.es = md (X.S o).es t pdF) (ps : S'.ps = (X.S o).ps) (nx : S'.nx = (X.S o).nx) (nm : S'.name = (X.S o).name) (cr : S'.cr = (X.S o).cr + e.qty) : Core (X.put o S') ts g := by
  have i := c.en o ho t e he
  refine core_mod c ho he es ps nx nm ?_ (fun w => ⟨w, Int.le_refl _⟩) (fun w => w) rfl rfl (fun _ _ => ⟨rfl, rfl⟩) (Int.le_refl _) (fun r h => .inl ⟨h, rfl⟩) (fun r h => .inl ⟨h, rfl⟩) ?_
  · rw [cr, es, crs_pad (c.ek o ho) he hp, c.cr o ho]
  · refine ⟨i.mem, i.unk, i.kno, i.poss, (fun w => by rw [show (pdF e).st = e.st from rfl, hu] at w; cases w), i.rcv, fun _ => ⟨hu, ?_⟩, fun x hx => keys_put es x (i.ch x hx)⟩
    rcases put_cases X o (g.hm t) S' with ⟨w, q⟩ | ⟨_, q⟩
    · rw [q, ps]
      rw [w] at pd
      exact pd
    · rw [q]
      exact pd
end
end LH
namespace LH
open PySem PySem.Spec PyProof.Rows L2
section
variable {o : Str}
theorem fresh2 {X : WS} {ts : List Str} {g : Gh} (c : Core X ts g) (ho : o ∈ names4) (h : ∀ p ∈ names4, (X.S p).nx ≤ 1000000000) : idf o (X.S o).nx ∉ ts := fun m => by
  obtain ⟨p, hp, j, j1, j2, e⟩ := c.made _ m
  have a := c.nx o ho
  have b := h p hp
  have b2 := h o ho
  obtain ⟨rfl, e2⟩ := idf_inj ho hp (by omega) (by omega) (by omega) (by omega) e
  omega
theorem put_nx {X : WS} {S' : OSt} {B : Int} (h : ∀ p ∈ names4, (X.S p).nx ≤ B) (k : S'.nx ≤ B) : ∀ p ∈ names4, ((X.put o S').S p).nx ≤ B := fun p hp => by
  rcases put_cases X o p S' with ⟨_, q⟩ | ⟨_, q⟩
  · rw [q]
    exact k
  · rw [q]
    exact h p hp
theorem idsL_succ (nx : Int) (n : Nat) : idsL o nx (n + 1) = idf o nx :: idsL o (nx + 1) n := by
  unfold idsL
  rw [List.range_succ_eq_map, List.map_cons, List.map_map]
  congr 1
  · simp
  · refine List.map_congr_left fun k _ => ?_
    show idf o (nx + ((k + 1 : Nat) : Int)) = idf o (nx + 1 + (k : Int))
    congr 1
    omega
theorem psOf_cons (nx n : Int) (ns : List Int) : psOf o nx (n :: ns) = (idf o nx, n) :: psOf o (nx + 1) ns := by
  unfold psOf
  rw [List.length_cons, idsL_succ, List.zip_cons_cons]
theorem md_app {t : Str} {f : Ent → Ent} (l : List (Str × Ent)) (p : Str × Ent) (h : p.1 ≠ t) : md (l ++ [p]) t f = md l t f ++ [p] := by
  unfold md
  rw [List.map_append]
  congr 1
  rw [List.map_cons, List.map_nil, if_neg h]
theorem begin_mod (S : OSt) {t id : Str} {f : Ent → Ent} {h : Option Str} {q : Int} (ne : id ≠ t) : (S.mod t f).begin_ id h q = (S.begin_ id h q).mod t f := by
  unfold OSt.begin_ OSt.mod OSt.add
  simp only
  rw [md_app _ _ ne]
def TopB (ts : List Str) (g : Gh) (B : Int) : Prop := ∀ t ∈ ts, g.top t ≤ B
theorem top_new {ts : List Str} {g : Gh} {B : Int} {id h : Str} {q : Int} (b : TopB ts g B) (b1 : 1 ≤ B) : TopB (ts ++ [id]) (g.new id h q o) B := fun t ht => by
  show (if t = id then 1 else g.top t) ≤ B
  by_cases z : t = id
  · rw [if_pos z]
    exact b1
  · rw [if_neg z]
    exact b t ((List.mem_append.mp ht).resolve_right fun w => z (List.mem_singleton.mp w))
/-- the parts of a thing -/
theorem core_parts (ho : o ∈ names4) {B : Int} (b1 : 1 ≤ B) : ∀ (ns : List Int) {X : WS} {ts : List Str} {g : Gh} {t : Str} {e : Ent}, Core X ts g → (X.S o).get t = some e → e.st = .split → (∀ n ∈ ns, 1 ≤ n ∧ n ≤ 1000000000) → (∀ p ∈ names4, (X.S p).nx + ns.length ≤ 1000000000) → TopB ts g B →
    ∃ g', Core (X.put o ((psOf o (X.S o).nx ns).foldl (partStep t e.home) (X.S o))) (ts ++ idsL o (X.S o).nx ns.length) g' ∧ TopB (ts ++ idsL o (X.S o).nx ns.length) g' B
  | [], X, ts, g, t, e, c, he, hs, _, _, tb => by
    refine ⟨g, ?_, ?_⟩
    · have e1 : X.put o (X.S o) = X := by
        unfold WS.put
        congr 1
        funext p
        by_cases z : p = o
        · simp [z]
        · simp [z]
      have e2 : ts ++ idsL o (X.S o).nx ([] : List Int).length = ts := List.append_nil ts
      rw [e2]
      show Core (X.put o (X.S o)) ts g
      rw [e1]
      exact c
    · have e2 : ts ++ idsL o (X.S o).nx ([] : List Int).length = ts := List.append_nil ts
      rw [e2]
      exact tb
  | n :: ns, X, ts, g, t, e, c, he, hs, hn, hx, tb => by
    rw [psOf_cons, List.foldl_cons, List.length_cons, idsL_succ]
    have i := c.en o ho t e he
    obtain ⟨h1, h2⟩ := hn n List.mem_cons_self
    obtain ⟨k1, _⟩ := i.kno (by rw [hs]; decide)
    have fr := fresh2 c ho fun p hp => by
      have := hx p hp
      rw [List.length_cons] at this
      omega
    have hne : idf o (X.S o).nx ≠ t := fun w => fr (by rw [w]; exact i.mem)
    have c1 := core_new c ho (c.hq t i.mem).1 h1 h2 fr
    rw [← k1] at c1
    generalize eid : idf o (X.S o).nx = id at fr hne c1 ⊢
    -- the child is noted
    have hnid := core_none c ho fr
    have g1 : ((X.S o).begin_ id e.home n).get t = some e := by
      rw [begin_get e.home n t hnid, if_neg fun w => hne w.symm]
      exact he
    have c2 : Core ((X.put o ((X.S o).begin_ id e.home n)).put o (((X.S o).begin_ id e.home n).mod t fun e => { e with ch := e.ch ++ [id] })) (ts ++ [id]) (g.new id (g.hm t) n o) := by
      refine core_hold (t := t) (e := e) (f := fun e => { e with ch := e.ch ++ [id] }) c1 ho (by rw [put_S]; exact g1) ⟨by rw [hs]; decide, by rw [hs]; decide, by rw [hs]; decide⟩ (by rw [put_S]; rfl) (by rw [put_S]; rfl) (by rw [put_S]; rfl) (by rw [put_S]; rfl) (by rw [put_S]; rfl)
        ⟨by show e.st ≠ _; rw [hs]; decide, by show e.st ≠ _; rw [hs]; decide⟩ ⟨rfl, rfl, rfl, rfl, rfl⟩ fun x hx => ?_
      rw [put_S]
      rcases List.mem_append.mp hx with w | w
      · rw [begin_get e.home n x hnid]
        have := i.ch x w
        by_cases z : x = id
        · rw [if_pos z]
          intro w
          cases w
        · rw [if_neg z]
          exact this
      · rw [List.mem_singleton.mp w, begin_get e.home n id hnid, if_pos rfl]
        intro w
        cases w
    rw [put_put, ← begin_mod _ hne] at c2
    have es : partStep t e.home (X.S o) (id, n) = ((X.S o).mod t fun e => { e with ch := e.ch ++ [id] }).begin_ id e.home n := rfl
    rw [es]
    generalize eS : ((X.S o).mod t fun e => { e with ch := e.ch ++ [id] }).begin_ id e.home n = S1 at c2 ⊢
    have n1 : S1.nx = (X.S o).nx + 1 := by rw [← eS]; rfl
    have g2 : S1.get t = some { e with ch := e.ch ++ [id] } := by
      rw [← eS, begin_mod _ hne, mod_same _ g1]
    obtain ⟨g', c3, t3⟩ := core_parts ho b1 ns (X := X.put o S1) (e := { e with ch := e.ch ++ [id] }) c2 (by rw [put_S]; exact g2) hs (fun m hm => hn m (List.mem_cons_of_mem _ hm)) (fun p hp => by
      rcases put_cases X o p S1 with ⟨rfl, q⟩ | ⟨_, q⟩
      · rw [q, n1]
        have := hx p hp
        rw [List.length_cons] at this
        omega
      · rw [q]
        have := hx p hp
        rw [List.length_cons] at this
        omega) (top_new tb b1)
    rw [put_S, put_put, n1, List.append_assoc] at c3
    rw [put_S, n1, List.append_assoc] at t3
    exact ⟨g', c3, t3⟩
end
end LH
namespace LH
open PySem PySem.Spec PyProof.Rows L2
section
variable {o : Str}
theorem put_self (X : WS) (o : Str) : X.put o (X.S o) = X := by
  unfold WS.put
  congr 1
  funext p
  by_cases z : p = o
  · simp [z]
  · simp [z]
theorem begin_jmods {n : Str} {h : Option Str} {q : Int} : ∀ (r : List Str) (S : OSt), n ∉ r → (S.jmods n r).begin_ n h q = (S.begin_ n h q).jmods n r
  | [], S, _ => rfl
  | t :: r, S, m => by
    have ne : n ≠ t := fun e => m (by rw [e]; exact List.mem_cons_self)
    show ((S.mod t (joinF n)).jmods n r).begin_ n h q = ((S.begin_ n h q).mod t (joinF n)).jmods n r
    rw [begin_jmods r (S.mod t (joinF n)) fun w => m (List.mem_cons_of_mem _ w), begin_mod S ne]
theorem core_jmods (ho : o ∈ names4) {n : Str} : ∀ (r : List Str) {X : WS} {ts : List Str} {g : Gh}, Core X ts g → r.Nodup → (∀ t ∈ r, ∃ e, (X.S o).get t = some e ∧ e.st = .held) → (X.S o).get n ≠ none → Core (X.put o ((X.S o).jmods n r)) ts g
  | [], X, ts, g, c, _, _, _ => by
    show Core (X.put o (X.S o)) ts g
    rw [put_self]
    exact c
  | t :: r, X, ts, g, c, nd, hh, hn => by
    rw [List.nodup_cons] at nd
    obtain ⟨e, he, hs⟩ := hh t List.mem_cons_self
    have i := c.en o ho t e he
    have c1 : Core (X.put o ((X.S o).mod t (joinF n))) ts g := by
      refine core_hold (f := joinF n) c ho he ⟨by rw [hs]; decide, by rw [hs]; decide, by rw [hs]; decide⟩ rfl rfl rfl rfl rfl ⟨(by intro w; cases w), (by intro w; cases w)⟩ ⟨rfl, rfl, rfl, rfl, rfl⟩ fun x hx => ?_
      rcases List.mem_append.mp hx with w | w
      · exact i.ch x w
      · rw [List.mem_singleton.mp w]
        exact hn
    have c2 := core_jmods ho (n := n) r c1 nd.2 (fun u hu => ?_) ?_
    · rw [put_S, put_put] at c2
      exact c2
    · obtain ⟨x, hx, hxs⟩ := hh u (List.mem_cons_of_mem _ hu)
      refine ⟨x, ?_, hxs⟩
      rw [put_S, mod_other _ fun w => nd.1 (by rw [← w]; exact hu)]
      exact hx
    · rw [put_S, mod_get]
      cases q : (X.S o).get n with
      | none => exact absurd q hn
      | some y =>
        intro w
        cases w
theorem core_join {X : WS} {ts : List Str} {g : Gh} (c : Core X ts g) (ho : o ∈ names4) (hx : ∀ p ∈ names4, (X.S p).nx ≤ 1000000000) {t0 : Str} {r : List Str} {e0 : Ent} (h0 : (X.S o).get t0 = some e0) (nd : (t0 :: r).Nodup)
    (hh : ∀ t ∈ t0 :: r, ∃ e, (X.S o).get t = some e ∧ e.st = .held ∧ e.cb = false ∧ e.home = e0.home) (hq : ((t0 :: r).map (X.S o).qof).sum ≤ 1000000000) :
    Core (X.put o ((X.S o).join_ (idf o (X.S o).nx) e0.home (t0 :: r))) (ts ++ [idf o (X.S o).nx]) (g.new (idf o (X.S o).nx) (g.hm t0) ((t0 :: r).map (X.S o).qof).sum o) := by
  have fr := fresh2 c ho hx
  have i0 := c.en o ho t0 e0 h0
  obtain ⟨e, he, hs, _⟩ := hh t0 List.mem_cons_self
  rw [h0] at he
  cases he
  obtain ⟨k1, k2, _⟩ := i0.kno (by rw [hs]; decide)
  have qp : ∀ t ∈ t0 :: r, 1 ≤ (X.S o).qof t := fun t ht => by
    obtain ⟨e, he, hs, _⟩ := hh t ht
    have i := c.en o ho t e he
    unfold OSt.qof
    rw [he]
    show 1 ≤ e.qty
    rw [(i.kno (by rw [hs]; decide)).2.1]
    exact (c.hq t i.mem).2.1
  have q1 : 1 ≤ ((t0 :: r).map (X.S o).qof).sum := by
    have a := qp t0 List.mem_cons_self
    have b : 0 ≤ (r.map (X.S o).qof).sum := sum_pos fun t ht => Int.le_trans (by decide) (qp t (List.mem_cons_of_mem _ ht))
    rw [List.map_cons, List.sum_cons]
    omega
  have c1 := core_new c ho (c.hq t0 i0.mem).1 q1 hq fr
  rw [← k1] at c1
  have nin : idf o (X.S o).nx ∉ t0 :: r := fun m => by
    obtain ⟨e, he, _⟩ := hh _ m
    exact fr (c.en o ho _ e he).mem
  have hn := core_none c ho fr
  unfold OSt.join_
  rw [begin_jmods _ _ nin]
  have c2 := core_jmods ho (n := idf o (X.S o).nx) (t0 :: r) c1 nd (fun t ht => ?_) ?_
  · rw [put_S, put_put] at c2
    exact c2
  · obtain ⟨e, he, hs, _⟩ := hh t ht
    refine ⟨e, ?_, hs⟩
    rw [put_S, begin_get _ _ t hn, if_neg fun w => nin (by rw [← w]; exact ht)]
    exact he
  · rw [put_S, begin_get _ _ _ hn, if_pos rfl]
    intro w
    cases w
/-! ### sizes -/
structure Sz (S S' : OSt) : Prop where
  nx : S'.nx ≤ S.nx + 3
  chs : chs (fun _ => false) S'.es ≤ chs (fun _ => false) S.es + 9
  ln : S'.ln ≤ S.ln + 1
theorem chs_md (t : Str) (f : Ent → Ent) (k : Nat) : ∀ es : List (Str × Ent), (es.map (·.1)).Nodup → (∀ e, (f e).ch.length ≤ e.ch.length + k) → chs (fun _ => false) (md es t f) ≤ chs (fun _ => false) es + k
  | [], _, _ => Nat.zero_le _
  | p :: r, nd, h => by
    rw [List.map_cons, List.nodup_cons] at nd
    show (if false = true then 0 else (if p.1 = t then (p.1, f p.2) else p).2.ch.length) + chs (fun _ => false) (md r t f) ≤ (if false = true then 0 else p.2.ch.length) + chs (fun _ => false) r + k
    by_cases z : p.1 = t
    · have e : md r t f = r := by
        unfold md
        have : r.map (fun p => if p.1 = t then (p.1, f p.2) else p) = r.map id := List.map_congr_left fun q hq => by
          have : ¬ q.1 = t := fun w => nd.1 (by rw [z, ← w]; exact List.mem_map.mpr ⟨_, hq, rfl⟩)
          rw [if_neg this]
          rfl
        rw [this, List.map_id]
      rw [e, if_pos z]
      have := h p.2
      simp
      omega
    · have ih := chs_md t f k r nd.2 h
      rw [if_neg z]
      omega
theorem chs_add (es : List (Str × Ent)) (t : Str) (e : Ent) (h : e.ch = []) : chs (fun _ => false) (es ++ [(t, e)]) = chs (fun _ => false) es := by
  rw [chs_app]
  show _ + ((if false = true then 0 else e.ch.length) + 0) = _
  rw [h]
  rfl
theorem sz_md {S S' : OSt} {t : Str} {f : Ent → Ent} (nd : (S.es.map (·.1)).Nodup) (es : S'.es = md S.es t f) (nx : S'.nx = S.nx) (ln : S'.ln = S.ln + 1) (h : ∀ e, (f e).ch = e.ch) : Sz S S' := by
  refine ⟨by omega, ?_, by omega⟩
  rw [es]
  have := chs_md t f 0 S.es nd fun e => by rw [h e]; exact Nat.le_refl _
  omega
theorem part_keys2 (t : Str) (h : Option Str) (S : OSt) (q : Str × Int) : (partStep t h S q).es.map (·.1) = S.es.map (·.1) ++ [q.1] := add_keys.trans (by rw [keys_md])
theorem sz_split {t : Str} {h : Option Str} : ∀ (ps : List (Str × Int)) (S : OSt), (S.es.map (·.1)).Nodup → ((ps.foldl (partStep t h) S).es.map (·.1)).Nodup → (ps.foldl (partStep t h) S).nx = S.nx + ps.length ∧ (ps.foldl (partStep t h) S).ln = S.ln ∧ chs (fun _ => false) (ps.foldl (partStep t h) S).es ≤ chs (fun _ => false) S.es + ps.length
  | [], S, _, _ => ⟨by simp, rfl, Nat.le_refl _⟩
  | p :: r, S, nd, nd2 => by
    have sub : ∀ (ps : List (Str × Int)) (S : OSt), ∃ l, (ps.foldl (partStep t h) S).es.map (·.1) = S.es.map (·.1) ++ l := by
      intro ps
      induction ps with
      | nil => intro S; exact ⟨[], (List.append_nil _).symm⟩
      | cons q l ih =>
        intro S
        obtain ⟨l2, e⟩ := ih (partStep t h S q)
        refine ⟨[q.1] ++ l2, ?_⟩
        rw [List.foldl_cons, e, part_keys2, List.append_assoc]
    have nd1 : ((partStep t h S p).es.map (·.1)).Nodup := by
      obtain ⟨l, e⟩ := sub r (partStep t h S p)
      rw [List.foldl_cons, e] at nd2
      exact (List.nodup_append.mp nd2).1
    obtain ⟨a1, a2, a3⟩ := sz_split r (partStep t h S p) nd1 nd2
    rw [List.foldl_cons, List.length_cons]
    have b1 : (partStep t h S p).nx = S.nx + 1 := rfl
    have b2 : (partStep t h S p).ln = S.ln := rfl
    have b3 : chs (fun _ => false) (partStep t h S p).es ≤ chs (fun _ => false) S.es + 1 := by
      have := chs_md t (fun e => { e with ch := e.ch ++ [p.1] }) 1 S.es nd fun e => by
        show (e.ch ++ [p.1]).length ≤ _
        rw [List.length_append]
        exact Nat.le_refl _
      have e : (partStep t h S p).es = md S.es t (fun e => { e with ch := e.ch ++ [p.1] }) ++ [(p.1, { Ent.new with home := h, qty := p.2, ep := 1, st := .held })] := rfl
      rw [e, chs_add _ _ _ rfl]
      exact this
    refine ⟨?_, by rw [a2, b2], by omega⟩
    rw [a1, b1]
    omega
theorem sz_jmods {n : Str} : ∀ (r : List Str) (S : OSt), (S.es.map (·.1)).Nodup → (S.jmods n r).nx = S.nx ∧ (S.jmods n r).ln = S.ln ∧ chs (fun _ => false) (S.jmods n r).es ≤ chs (fun _ => false) S.es + r.length
  | [], S, _ => ⟨rfl, rfl, Nat.le_refl _⟩
  | t :: r, S, nd => by
    obtain ⟨a1, a2, a3⟩ := sz_jmods (n := n) r (S.mod t (joinF n)) (by show ((md S.es t _).map (·.1)).Nodup; rw [md_keys]; exact nd)
    have := chs_md t (joinF n) 1 S.es nd fun e => by
      show (e.ch ++ [n]).length ≤ _
      rw [List.length_append]
      exact Nat.le_refl _
    have b : chs (fun _ => false) (S.mod t (joinF n)).es ≤ chs (fun _ => false) S.es + 1 := this
    rw [List.length_cons]
    exact ⟨a1, a2, by show chs (fun _ => false) ((S.mod t (joinF n)).jmods n r).es ≤ _; omega⟩
theorem sz_join {n : Str} {h : Option Str} (r : List Str) (S : OSt) (nd : (S.es.map (·.1)).Nodup) : (S.join_ n h r).nx = S.nx + 1 ∧ (S.join_ n h r).ln = S.ln ∧ chs (fun _ => false) (S.join_ n h r).es ≤ chs (fun _ => false) S.es + r.length := by
  obtain ⟨a1, a2, a3⟩ := sz_jmods (n := n) r S nd
  refine ⟨by show (S.jmods n r).nx + 1 = _; rw [a1], a2, ?_⟩
  show chs (fun _ => false) ((S.jmods n r).es ++ [(n, _)]) ≤ _
  rw [chs_add _ _ _ rfl]
  exact a3
theorem setcb_chs (S : OSt) (f : Str → Bool) : chs (fun _ => false) (S.setcb f).es = chs (fun _ => false) S.es := by
  unfold OSt.setcb
  show chs _ (S.es.map _) = _
  induction S.es with
  | nil => rfl
  | cons p r ih =>
    rw [List.map_cons]
    show (if false = true then 0 else p.2.ch.length) + chs (fun _ => false) (r.map _) = (if false = true then 0 else p.2.ch.length) + chs (fun _ => false) r
    rw [ih]
theorem know_nx (S : OSt) (t : Str) : (S.know t).nx = S.nx ∧ (S.know t).ln = S.ln := by
  cases h : S.get t with
  | none =>
    rw [know_none h]
    exact ⟨rfl, rfl⟩
  | some e =>
    rw [know_some h]
    exact ⟨rfl, rfl⟩
end
end LH
namespace LH
open PySem PySem.Spec PyProof.Rows L2
/-! ### a letter is delivered: what stands -/
theorem rd_sim (e : Ent) : Sim e (rdF e) := ⟨rfl, rfl, rfl, rfl, rfl, rfl, rfl⟩
theorem nt_sim (e : Ent) : Sim e (ntF e) := ⟨rfl, rfl, rfl, rfl, rfl, rfl, rfl⟩
section
variable {X : WS} {ts : List Str} {g : Gh}
theorem aft_self (X : WS) (ts : List Str) (g : Gh) {o : Str} (ho : o ∈ names4) {S' : OSt} (get : ∀ t e, (X.S o).get t = some e → ∃ e', S'.get t = some e' ∧ Sim e e') (ps : S'.ps = (X.S o).ps) : Aft X ts g (X.put o S') g := by
  refine aft_put0 ho (fun t e h => ?_) fun t v h => by rw [ps]; exact h
  obtain ⟨e', h1, sm⟩ := get t e h
  exact ⟨e', h1, fun u => ⟨by rw [sm.st]; exact u, by rw [sm.ep]; exact Int.le_refl _⟩, fun u => by rw [sm.st]; exact u⟩
theorem know_sub (S : OSt) (t : Str) : ∀ u e, S.get u = some e → ∃ e', (S.know t).get u = some e' ∧ Sim e e' := fun u e h => by
  cases hn : S.get t with
  | some x =>
    rw [know_some hn]
    exact ⟨e, h, Sim.refl e⟩
  | none =>
    rw [know_none hn, add_get _ u hn]
    have : u ≠ t := fun w => by
      rw [w, hn] at h
      cases h
    rw [if_neg this]
    exact ⟨e, h, Sim.refl e⟩
theorem know_ps (S : OSt) (t : Str) : (S.know t).ps = S.ps := by
  cases hn : S.get t with
  | some x => rw [know_some hn]
  | none =>
    rw [know_none hn]
    rfl
/-- got: what the fitting says -/
theorem gotB_says {S : OSt} {t h : Str} {q n : Int} {s : Str} (f : gotB S t h q n s = true) : 0 ≤ n ∧ ∀ e, S.get t = some e → e.st = .unk ∨ (e.st = .given ∧ e.ep < n) := by
  unfold gotB at f
  split at f
  · cases f
  · next z =>
    refine ⟨?_, fun e he => ?_⟩
    · by_cases w : n < 2
      · exact absurd (.inr (.inr w)) z
      · omega
    · rw [he] at f
      simp only at f
      by_cases u : e.st = .unk
      · exact .inl u
      · rw [if_neg u] at f
        split at f
        · cases f
        · next y =>
          refine .inr ⟨?_, ?_⟩
          · by_cases w : e.st = .given
            · exact w
            · exact absurd (.inl w) y
          · by_cases w : n ≤ e.ep
            · exact absurd (.inr w) y
            · omega
theorem core_line (c : Core X ts g) {l : Ltr} {S' : OSt} (hs : l.snd ∈ names4) (hr : l.rcv ∈ names4) (ht : l.th ∈ ts) (li : LI X g l) (nt : Noted (X.S l.rcv) (lineOf l) S') : ∃ g', Core (X.put l.rcv S') ts g' ∧ g'.top = g.top ∧ g'.hm = g.hm ∧ g'.qt = g.qt := by
  unfold Noted at nt
  split at nt
  · next f =>
    cases l with
    | deed s r t h q n =>
      obtain ⟨e1, e2, n0, di⟩ := li
      have nt : S' = (X.S r).lnup.got_ t h q n := nt
      have f : gotB (X.S r) t h q n s = true := f
      obtain ⟨_, fb⟩ := gotB_says f
      have hr : r ∈ names4 := hr
      have ht : t ∈ ts := ht
      have c1 := core_ln c hr
      have c2 := core_know c1 hr ht
      rw [put_S, put_put] at c2
      obtain ⟨e, he⟩ := know_get (X.S r).lnup t
      have a2 : Aft X ts g (X.put r ((X.S r).lnup.know t)) g := aft_self X ts g hr (fun u x hx => know_sub (X.S r).lnup t u x hx) (know_ps (X.S r).lnup t)
      have est : e.st = .unk ∨ (e.st = .given ∧ e.ep < n) := by
        cases hn : (X.S r).get t with
        | none =>
          have hn2 : (X.S r).lnup.get t = none := hn
          rw [know_none hn2, add_get _ t hn2, if_pos rfl] at he
          cases he
          exact .inl rfl
        | some x =>
          have hn2 : (X.S r).lnup.get t = some x := hn
          rw [know_some hn2, hn2] at he
          cases he
          exact fb _ hn
      have hg : ((X.put r ((X.S r).lnup.know t)).S r).get t = some e := by
        rw [put_S]
        exact he
      have c3 := core_got (S' := (X.S r).lnup.got_ t h q n) c2 hr hg (est.imp id And.left) n0 (a2.di ht hr di) (fun k => ?_) (by rw [put_S, e1, e2]; rfl) (by rw [put_S]; rfl) (by rw [put_S]; rfl) (by rw [put_S]; rfl) (by rw [put_S]; rfl)
      · rw [put_put] at c3
        refine ⟨g.got t r, ?_, rfl, rfl, rfl⟩
        rw [nt]
        exact c3
      · obtain ⟨x, h1, h2, h3⟩ := k
        rw [hg] at h1
        cases h1
        rcases est with w | ⟨_, w⟩
        · exact h2 w
        · omega
    | receipt s r t n =>
      have nt : S' = (X.S r).lnup.mod t rdF := nt
      subst nt
      exact ⟨g, core_note c hr rd_sim rfl rfl rfl rfl rfl, rfl, rfl, rfl⟩
    | noted s r t =>
      have nt : S' = (X.S r).lnup.mod t ntF := nt
      subst nt
      exact ⟨g, core_note c hr nt_sim rfl rfl rfl rfl rfl, rfl, rfl, rfl⟩
    | notice s r t =>
      obtain ⟨c0, _, _, q3⟩ := nt
      have c1 := core_ln c hr
      have c2 := core_know c1 hr ht
      rw [put_S, put_put] at c2
      have c3 := core_setcb c2 hr c0
      rw [put_S, put_put] at c3
      rw [q3]
      exact ⟨g, c3, rfl, rfl, rfl⟩
    | claim s r t q =>
      obtain ⟨e1, e2, u⟩ := li
      have nt : S' = { (X.S r).lnup with ps := (X.S r).ps ++ [(t, s, q)] } := nt
      have f : ((gt (X.S r).ps t).isNone && decide (1 ≤ q ∧ q ≤ 1000000000)) = true := f
      rw [Bool.and_eq_true] at f
      subst nt e2
      exact ⟨g, core_pay c hr (Option.isNone_iff_eq_none.mp f.1) ht hs e1 u rfl rfl rfl rfl rfl, rfl, rfl, rfl⟩
    | paid s r t q =>
      obtain ⟨e1, e2, u⟩ := li
      have nt : S' = { (X.S r).lnup.mod t pdF with cr := (X.S r).cr + q } := nt
      have f : (match (X.S r).get t with | none => false | some e => decide (e.st = .used) && !e.pd && decide (q = e.qty)) = true := f
      cases he : (X.S r).get t with
      | none =>
        rw [he] at f
        cases f
      | some e =>
        rw [he] at f
        simp only [Bool.and_eq_true, decide_eq_true_eq, Bool.not_eq_true'] at f
        obtain ⟨⟨f1, f2⟩, f3⟩ := f
        subst nt
        refine ⟨g, core_pad c hr he f1 f2 ?_ rfl rfl rfl rfl (by show (X.S r).cr + q = _; rw [f3]; rfl), rfl, rfl, rfl⟩
        rw [← e1, ← e2]
        exact u
  · refine ⟨g, ?_, rfl, rfl, rfl⟩
    rw [nt, put_self]
    exact c
/-- the answers -/
theorem core_ans (c : Core X ts g) {l : Ltr} {S' : OSt} (hs : l.snd ∈ names4) (hr : l.rcv ∈ names4) (ht : l.th ∈ ts) (li : LI X g l) (nt : Noted (X.S l.rcv) (lineOf l) S') : ∃ g', Core ((X.put l.rcv S').send (ansOf (X.S l.rcv) S' l)) ts g' ∧ g'.top = g.top := by
  obtain ⟨g', c1, e1, e2, e3⟩ := core_line c hs hr ht li nt
  refine ⟨g', core_send c1 fun m hm => ?_, e1⟩
  have nm := c.nm l.rcv hr
  cases l with
  | deed s r t h q n =>
    have hm : m ∈ [Ltr.receipt (X.S r).name s t n] := hm
    have nm : (X.S r).name = r := nm
    rw [List.mem_singleton.mp hm, nm]
    exact ⟨hr, hs, ht, li.2.2.1, by rw [e1]; exact li.2.2.2.1⟩
  | receipt s r t n => cases hm
  | noted s r t => cases hm
  | paid s r t q => cases hm
  | notice s r t =>
    have hm : m ∈ Ltr.noted (X.S r).name s t :: fur (X.S r) S' := hm
    have nm : (X.S r).name = r := nm
    rcases List.mem_cons.mp hm with w | w
    · rw [w, nm]
      exact ⟨hr, hs, ht, trivial⟩
    · have hr : r ∈ names4 := hr
      have q := (List.mem_filter.mp w).1
      have q2 : m ∈ ((X.put r S').S r).pend := by
        rw [put_S]
        exact q
      exact pend_li c1 hr m q2
  | claim s r t q =>
    have nm : (X.S r).name = r := nm
    have hm : m ∈ (if gt S'.ps t = some (s, q) then [Ltr.paid (X.S r).name s t q] else []) := hm
    split at hm
    · next z =>
      rw [List.mem_singleton.mp hm, nm]
      refine ⟨hr, hs, ht, by rw [e2]; exact li.1, by rw [e3]; exact li.2.1, ?_⟩
      show gt ((X.put r S').S r).ps t = _
      rw [put_S]
      exact z
    · cases hm
theorem li_ns {ns : List Ltr} {l : Ltr} (h : LI X g l) : LI { X with ns := ns } g l := by cases l <;> exact h
theorem core_dlv (c : Core X ts g) {i : Nat} {l : Ltr} {S' : OSt} (hl : X.ns[i]? = some l) (nt : Noted (X.S l.rcv) (lineOf l) S') : ∃ g', Core (dlv X i l S') ts g' ∧ g'.top = g.top := by
  obtain ⟨q1, q2, q3, q4⟩ := c.lt l (List.mem_of_getElem? hl)
  exact core_ans (core_drop c i) q1 q2 q3 (li_ns q4) nt
end
end LH
namespace LH
open PySem PySem.Spec PyProof.Rows L2
/-! ### a step of the law -/
theorem know_nd {S : OSt} {t : Str} (nd : (S.es.map (·.1)).Nodup) : ((S.know t).es.map (·.1)).Nodup := by
  cases hn : S.get t with
  | some x =>
    rw [know_some hn]
    exact nd
  | none =>
    rw [know_none hn, add_keys]
    exact snoc_nd nd (none_key hn)
theorem noted_sz {S S' : OSt} {l : Ltr} (nd : (S.es.map (·.1)).Nodup) (nt : Noted S (lineOf l) S') : Sz S S' ∧ S'.nx = S.nx ∧ chs (fun _ => false) S'.es ≤ chs (fun _ => false) S.es ∧ (fitB S (lineOf l) = true → S'.ln = S.ln + 1) := by
  have fin : S'.nx = S.nx → chs (fun _ => false) S'.es ≤ chs (fun _ => false) S.es → S'.ln = S.ln + 1 → Sz S S' ∧ S'.nx = S.nx ∧ chs (fun _ => false) S'.es ≤ chs (fun _ => false) S.es ∧ (fitB S (lineOf l) = true → S'.ln = S.ln + 1) := fun a b c => ⟨⟨by omega, by omega, by omega⟩, a, b, fun _ => c⟩
  unfold Noted at nt
  split at nt
  · next f =>
    cases l with
    | deed s r t h q n =>
      have nt : S' = S.lnup.got_ t h q n := nt
      obtain ⟨k1, k2⟩ := know_nx S.lnup t
      have a := chs_md t (gotF h q n) 0 (S.lnup.know t).es (know_nd nd) fun e => Nat.le_refl _
      have b : chs (fun _ => false) (S.lnup.know t).es = chs (fun _ => false) S.es := know_chs
      rw [nt]
      refine nt ▸ fin (by rw [nt]; exact k1) ?_ (by rw [nt]; exact k2)
      rw [nt]
      show chs _ (md (S.lnup.know t).es t _) ≤ _
      omega
    | receipt s r t n =>
      have nt : S' = S.lnup.mod t rdF := nt
      have a := chs_md t rdF 0 S.es nd fun e => Nat.le_refl _
      exact fin (by rw [nt]; rfl) (by rw [nt]; exact a) (by rw [nt]; rfl)
    | noted s r t =>
      have nt : S' = S.lnup.mod t ntF := nt
      have a := chs_md t ntF 0 S.es nd fun e => Nat.le_refl _
      exact fin (by rw [nt]; rfl) (by rw [nt]; exact a) (by rw [nt]; rfl)
    | notice s r t =>
      obtain ⟨c0, _, _, q3⟩ := nt
      obtain ⟨k1, k2⟩ := know_nx S.lnup t
      have b : chs (fun _ => false) (S.lnup.know t).es = chs (fun _ => false) S.es := know_chs
      exact fin (by rw [q3]; exact k1) (by rw [q3, setcb_chs, b]; exact Nat.le_refl _) (by rw [q3]; exact k2)
    | claim s r t q =>
      have nt : S' = { S.lnup with ps := S.ps ++ [(t, s, q)] } := nt
      exact fin (by rw [nt]; rfl) (by rw [nt]; exact Nat.le_refl _) (by rw [nt]; rfl)
    | paid s r t q =>
      have nt : S' = { S.lnup.mod t pdF with cr := S.cr + q } := nt
      have a := chs_md t pdF 0 S.es nd fun e => Nat.le_refl _
      exact fin (by rw [nt]; rfl) (by rw [nt]; exact a) (by rw [nt]; rfl)
  · next f =>
    rw [nt]
    exact ⟨⟨by omega, by omega, by omega⟩, rfl, Nat.le_refl _, fun z => absurd z f⟩
structure Nums (n : Nat) (X : WS) (ts : List Str) : Prop where
  len : ts.length ≤ 3 * n
  nx : ∀ o ∈ names4, (X.S o).nx ≤ 3 * n + 1
  chs : ∀ o ∈ names4, chs (fun _ => false) (X.S o).es ≤ 9 * n
  ln : ∀ o ∈ names4, (X.S o).ln ≤ n
  ns : X.ns.length ≤ 400 * n
def LawI (n : Nat) (X : WS) (ts : List Str) : Prop := ∃ g, Core X ts g ∧ TopB ts g (n + 1) ∧ Nums n X ts
section
variable {X : WS} {ts ts' : List Str} {g : Gh} {n : Nat}
theorem num_of (m : Nums n X ts) (b : TopB ts g (n + 1)) (h : n ≤ 60) : Num X ts g := ⟨by have := m.len; omega, fun t ht => by have := b t ht; omega, fun o ho => by have := m.nx o ho; omega, fun o ho => by have := m.chs o ho; omega, fun o ho => by have := m.ln o ho; omega⟩
theorem nums_put {o : Str} {S' : OSt} {ls : List Ltr} (m : Nums n X ts) (ho : o ∈ names4) (sz : Sz (X.S o) S') (h1 : ts'.length ≤ ts.length + 3) (h2 : ls.length ≤ 400) : Nums (n + 1) ((X.put o S').send ls) ts' := by
  refine ⟨by have := m.len; omega, fun p hp => ?_, fun p hp => ?_, fun p hp => ?_, ?_⟩
  · show ((X.put o S').S p).nx ≤ _
    rcases put_cases X o p S' with ⟨rfl, q⟩ | ⟨_, q⟩
    · rw [q]
      have a := sz.nx
      have b := m.nx p hp
      omega
    · rw [q]
      have b := m.nx p hp
      omega
  · show chs _ ((X.put o S').S p).es ≤ _
    rcases put_cases X o p S' with ⟨rfl, q⟩ | ⟨_, q⟩
    · rw [q]
      have a := sz.chs
      have b := m.chs p hp
      omega
    · rw [q]
      have b := m.chs p hp
      omega
  · show ((X.put o S').S p).ln ≤ _
    rcases put_cases X o p S' with ⟨rfl, q⟩ | ⟨_, q⟩
    · rw [q]
      have a := sz.ln
      have b := m.ln p hp
      omega
    · rw [q]
      have b := m.ln p hp
      omega
  · show (X.ns ++ ls).length ≤ _
    rw [List.length_append]
    have := m.ns
    omega
theorem nums_ns {ns : List Ltr} (m : Nums n X ts) (h : ns.length ≤ X.ns.length + 400) : Nums (n + 1) { X with ns := ns } ts := by
  refine ⟨by have := m.len; omega, fun p hp => ?_, fun p hp => ?_, fun p hp => ?_, by have := m.ns; show ns.length ≤ _; omega⟩
  · have := m.nx p hp
    show (X.S p).nx ≤ _
    omega
  · have := m.chs p hp
    show chs _ (X.S p).es ≤ _
    omega
  · have := m.ln p hp
    show (X.S p).ln ≤ _
    omega
theorem top_up (b : TopB ts g (n + 1)) : TopB ts g ((n + 1 : Nat) + 1) := fun t ht => by
  have := b t ht
  omega
theorem fur_small {Y : WS} {g2 : Gh} {o : Str} {S S' : OSt} (c : Core Y ts g2) (ho : o ∈ names4) (e : Y.S o = S') : (fur S S').length ≤ 2 * ts.length := by
  have a1 := List.length_filter_le (fun l => !decide (l ∈ S.pend)) S'.pend
  have a2 := pend_len S'
  have a3 := c.eslen ho
  rw [e] at a3
  unfold fur
  omega
theorem pend_small (c : Core X ts g) {o : Str} (ho : o ∈ names4) : (X.S o).pend.length ≤ 2 * ts.length := by
  have a2 := pend_len (X.S o)
  have a3 := c.eslen ho
  omega
end
theorem law_step {n : Nat} {X X' : WS} {ts new : List Str} (h60 : n < 60) (h : LawI n X ts) (st : LStep X ts X' new) : LawI (n + 1) X' (ts ++ new) := by
  obtain ⟨g, c, tb, m⟩ := h
  have num := num_of m tb (by omega)
  have tl := m.len
  have nxb : ∀ p ∈ names4, (X.S p).nx ≤ 1000000000 := fun p hp => by have := m.nx p hp; omega
  cases st with
  | reg o q ho q1 q2 =>
    have c1 := core_ln c ho
    have fr := fresh2 c1 ho (put_nx nxb (by have := nxb o ho; exact this))
    rw [put_S] at fr
    have c2 := core_new (h := o) (q := q) c1 ho ho q1 (by omega) (by rw [put_S]; exact fr)
    rw [put_S, put_put] at c2
    have c3 : Core ((X.put o ((X.S o).lnup.begin_ (idf o (X.S o).nx) (some o) q)).send []) (ts ++ [idf o (X.S o).nx]) (g.new (idf o (X.S o).nx) o q o) := by
      rw [send_nil]
      exact c2
    rw [← send_nil (X.put o ((X.S o).lnup.begin_ (idf o (X.S o).nx) (some o) q))]
    refine ⟨_, c3, top_new (top_up tb) (by omega), nums_put m ho ⟨by show (X.S o).nx + 1 ≤ _; omega, ?_, Nat.le_refl _⟩ (by rw [List.length_append]; exact Nat.add_le_add_left (show 1 ≤ 3 by decide) _) (Nat.zero_le _)⟩
    show chs _ ((X.S o).es ++ [(_, _)]) ≤ _
    rw [chs_add _ _ _ rfl]
    omega
  | dlv i l S' hl nt =>
    obtain ⟨g', c1, e1⟩ := core_dlv c hl nt
    obtain ⟨q1, q2, q3, q4⟩ := c.lt l (List.mem_of_getElem? hl)
    obtain ⟨sz, _⟩ := noted_sz (c.ek _ q2) nt
    have al : (ansOf (X.S l.rcv) S' l).length ≤ 400 := by
      cases l with
      | deed => show 1 ≤ _; decide
      | receipt => exact Nat.zero_le _
      | notice s r t =>
        have q2 : r ∈ names4 := q2
        have e : (dlv X i (.notice s r t) S').S r = S' := put_S _ _ _
        have := fur_small (S := X.S r) c1 q2 e
        show (fur (X.S r) S').length + 1 ≤ _
        omega
      | noted => exact Nat.zero_le _
      | claim s r t q =>
        unfold ansOf
        simp only
        split <;> simp
      | paid => exact Nat.zero_le _
    rw [List.append_nil]
    refine ⟨g', c1, fun t ht => by rw [e1]; exact top_up tb t ht, ?_⟩
    have m2 := nums_put (X := X.drop i) (ts := ts) (ts' := ts) (n := n) (S' := S') (ls := ansOf (X.S l.rcv) S' l) ⟨m.len, m.nx, m.chs, m.ln, ?_⟩ q2 sz (by omega) al
    · exact m2
    · show (X.ns.eraseIdx i).length ≤ _
      have := List.length_eraseIdx_le X.ns i
      have := m.ns
      omega
  | drop i =>
    rw [List.append_nil]
    refine ⟨g, core_drop c i, top_up tb, nums_ns m ?_⟩
    have := List.length_eraseIdx_le X.ns i
    omega
  | dup i l hl =>
    rw [List.append_nil]
    refine ⟨g, core_send c fun k hk => ?_, top_up tb, nums_ns m ?_⟩
    · rw [List.mem_singleton.mp hk]
      exact c.lt l (List.mem_of_getElem? hl)
    · show (X.ns ++ [l]).length ≤ _
      rw [List.length_append]
      exact Nat.add_le_add_left (show 1 ≤ 400 by decide) _
  | give o t r e ho ht hr hne he hh hc =>
    rw [List.append_nil]
    have c1 := core_give (S' := (X.S o).lnup.give_ t (e.ep + 1) r) c ho hr he hh rfl rfl rfl rfl rfl
    have g1 : ((X.put o ((X.S o).lnup.give_ t (e.ep + 1) r)).S o).get t = some (giveF (e.ep + 1) r e) := by
      rw [put_S]
      exact mod_same (S := (X.S o).lnup) (giveF (e.ep + 1) r) he
    refine ⟨_, core_send c1 (letOf_li c1 ho g1), fun u hu => ?_, nums_put m ho (sz_md (f := giveF (e.ep + 1) r) (c.ek o ho) rfl rfl rfl fun _ => rfl) (by omega) ?_⟩
    · show (if u = t then g.top t + 1 else g.top u) ≤ _
      by_cases z : u = t
      · rw [if_pos z]
        have := tb t ht
        omega
      · rw [if_neg z]
        have := tb u hu
        omega
    · have := letOf_len o t (giveF (e.ep + 1) r e)
      omega
  | split o t e ns ho ht he hh hc h1 h2 h3 h4 =>
    have c1 : Core (X.put o ((X.S o).lnup.mod t fun e => { e with st := .split })) ts g := by
      have i := c.en o ho t e he
      exact core_hold (f := fun e => { e with st := .split }) c ho he ⟨by rw [hh]; decide, by rw [hh]; decide, by rw [hh]; decide⟩ rfl rfl rfl rfl rfl ⟨(by intro w; cases w), (by intro w; cases w)⟩ ⟨rfl, rfl, rfl, rfl, rfl⟩ i.ch
    have g1 : ((X.put o ((X.S o).lnup.mod t fun e => { e with st := .split })).S o).get t = some { e with st := .split } := by
      rw [put_S]
      exact mod_same (S := (X.S o).lnup) _ he
    obtain ⟨g', c2, tb2⟩ := core_parts ho (B := (n + 1 : Nat) + 1) (by omega) ns c1 g1 rfl h1 (fun p hp => by
      have a : ((X.put o ((X.S o).lnup.mod t fun e => { e with st := .split })).S p).nx ≤ 1000 := put_nx (fun p hp => by have := m.nx p hp; omega) (by show (X.S o).nx ≤ _; have := m.nx o ho; omega) p hp
      omega) (top_up tb)
    rw [put_S, put_put] at c2
    rw [put_S] at tb2
    have eS : (X.S o).lnup.split_ t e.home (psOf o (X.S o).nx ns) = (psOf o (X.S o).nx ns).foldl (partStep t e.home) ((X.S o).lnup.mod t fun e => { e with st := .split }) := rfl
    have c3 : Core (X.put o ((X.S o).lnup.split_ t e.home (psOf o (X.S o).nx ns))) (ts ++ idsL o (X.S o).nx ns.length) g' := c2
    have ek3 := c3.ek o ho
    rw [put_S] at ek3
    rw [← send_nil (X.put o ((X.S o).lnup.split_ t e.home (psOf o (X.S o).nx ns)))]
    obtain ⟨s1, s2, s3⟩ := sz_split (t := t) (h := e.home) (psOf o (X.S o).nx ns) ((X.S o).lnup.mod t fun e => { e with st := .split }) (by show ((md (X.S o).es t fun e => { e with st := .split }).map (·.1)).Nodup; rw [md_keys]; exact c.ek o ho) ek3
    have pl := psOf_len o (X.S o).nx ns
    have cm := chs_md t (fun e => { e with st := .split }) 0 (X.S o).es (c.ek o ho) fun e => Nat.le_refl _
    refine ⟨g', by rw [send_nil]; exact c3, tb2, nums_put m ho ⟨?_, ?_, ?_⟩ (by rw [List.length_append, idsL_len]; omega) (Nat.zero_le _)⟩
    · rw [eS, s1, pl]
      show (X.S o).nx + (ns.length : Int) ≤ _
      omega
    · rw [eS]
      have : chs (fun _ => false) ((X.S o).lnup.mod t fun e => { e with st := .split }).es ≤ chs (fun _ => false) (X.S o).es + 0 := cm
      omega
    · rw [eS, s2]
      exact Nat.le_refl _
  | join o t0 r e0 ho h0 nd h3 hh hq =>
    have c1 := core_ln c ho
    have hx1 : ∀ p ∈ names4, ((X.put o (X.S o).lnup).S p).nx ≤ 1000000000 := put_nx nxb (nxb o ho)
    have c2 := core_join c1 ho hx1 (t0 := t0) (r := r) (e0 := e0) (by rw [put_S]; exact h0) nd (by rw [put_S]; exact hh) (by rw [put_S]; exact hq)
    rw [put_S, put_put] at c2
    have c3 : Core (X.put o ((X.S o).lnup.join_ (idf o (X.S o).nx) e0.home (t0 :: r))) (ts ++ [idf o (X.S o).nx]) _ := c2
    rw [← send_nil (X.put o ((X.S o).lnup.join_ (idf o (X.S o).nx) e0.home (t0 :: r)))]
    obtain ⟨s1, s2, s3⟩ := sz_join (n := idf o (X.S o).nx) (h := e0.home) (t0 :: r) (X.S o).lnup (c.ek o ho)
    refine ⟨_, by rw [send_nil]; exact c3, top_new (top_up tb) (by omega), nums_put m ho ⟨?_, ?_, ?_⟩ (by rw [List.length_append]; exact Nat.add_le_add_left (show 1 ≤ 3 by decide) _) (Nat.zero_le _)⟩
    · rw [s1]
      show (X.S o).nx + 1 ≤ _
      omega
    · have : chs (fun _ => false) (X.S o).lnup.es = chs (fun _ => false) (X.S o).es := rfl
      omega
    · rw [s2]
      exact Nat.le_refl _
  | use o t e ho ht he hh hc =>
    rw [List.append_nil]
    have i := c.en o ho t e he
    have c1 : Core (X.put o ((X.S o).lnup.mod t useF)) ts g := core_hold (f := useF) c ho he ⟨by rw [hh]; decide, by rw [hh]; decide, by rw [hh]; decide⟩ rfl rfl rfl rfl rfl ⟨(by intro w; cases w), (by intro w; cases w)⟩ ⟨rfl, rfl, rfl, rfl, rfl⟩ i.ch
    have g1 : ((X.put o ((X.S o).lnup.mod t useF)).S o).get t = some (useF e) := by
      rw [put_S]
      exact mod_same (S := (X.S o).lnup) useF he
    refine ⟨g, core_send c1 (letOf_li c1 ho g1), top_up tb, nums_put m ho (sz_md (f := useF) (c.ek o ho) rfl rfl rfl fun _ => rfl) (by omega) ?_⟩
    have := letOf_len o t (useF e)
    omega
  | rcl o t e S' ho ht he hh hc ap =>
    rw [List.append_nil]
    obtain ⟨c0, _, _, q3⟩ := ap
    have c1 := core_ln c ho
    have c2 := core_know c1 ho ht
    rw [put_S, put_put] at c2
    have c3 := core_setcb c2 ho c0
    rw [put_S, put_put, ← q3] at c3
    have fs := fur_small (S := X.S o) c3 ho (put_S X o S')
    obtain ⟨k1, k2⟩ := know_nx (X.S o).lnup t
    have b : chs (fun _ => false) ((X.S o).lnup.know t).es = chs (fun _ => false) (X.S o).es := know_chs
    refine ⟨g, core_send c3 fun k hk => ?_, top_up tb, nums_put m ho ⟨?_, ?_, ?_⟩ (by omega) (by omega)⟩
    · have q2 : k ∈ ((X.put o S').S o).pend := by
        rw [put_S]
        exact (List.mem_filter.mp hk).1
      exact pend_li c3 ho k q2
    · rw [q3]
      show ((X.S o).lnup.know t).nx ≤ _
      rw [k1]
      show (X.S o).nx ≤ _
      omega
    · rw [q3, setcb_chs, b]
      omega
    · rw [q3]
      show ((X.S o).lnup.know t).ln ≤ _
      rw [k2]
      exact Nat.le_refl _
  | tick o ho =>
    rw [List.append_nil]
    refine ⟨g, core_send c (pend_li c ho), top_up tb, nums_ns m ?_⟩
    have := pend_small c ho
    show (X.ns ++ (X.S o).pend).length ≤ _
    rw [List.length_append]
    omega
end LH
namespace LH
open PySem PySem.Spec PyProof.Rows L2
/-! ### what can still come: it falls with every line -/
def nb (b : Bool) : Nat := if b = true then 0 else 1
def nst (s : Stt) : Nat := if s = .unk ∨ s = .given then 1 else 0
def phe : Option Ent → Nat
  | none => 5
  | some e => nb e.cb + nb e.rd + nb e.nt + nb e.pd + nst e.st
def php {α : Type} : Option α → Nat
  | none => 1
  | some _ => 0
def phi (S : OSt) (t : Str) : Nat := phe (S.get t) + php (gt S.ps t)
theorem nb_le (b : Bool) : nb b ≤ 1 := by cases b <;> decide
theorem nst_le (s : Stt) : nst s ≤ 1 := by
  unfold nst
  split
  · exact Nat.le_refl _
  · exact Nat.zero_le _
theorem phe_le (x : Option Ent) : phe x ≤ 5 := by
  cases x with
  | none => exact Nat.le_refl _
  | some e =>
    have := nb_le e.cb
    have := nb_le e.rd
    have := nb_le e.nt
    have := nb_le e.pd
    have := nst_le e.st
    show _ + _ + _ + _ + _ ≤ 5
    omega
theorem phi_le (S : OSt) (t : Str) : phi S t ≤ 6 := by
  have a := phe_le (S.get t)
  unfold phi
  cases gt S.ps t with
  | none =>
    show _ + 1 ≤ _
    omega
  | some v =>
    show _ + 0 ≤ _
    omega
/-- one entry changes -/
theorem phi_mod {S S' : OSt} {t : Str} {e : Ent} {f : Ent → Ent} (he : S.get t = some e) (es : S'.es = md S.es t f) (ps : S'.ps = S.ps) (lt : phe (some (f e)) < phe (some e)) : (∀ u, phi S' u ≤ phi S u) ∧ phi S' t < phi S t := by
  have k : phi S' t < phi S t := by
    unfold phi
    rw [es_md es, he, ps]
    show phe (some (if t = t then f e else e)) + _ < _
    rw [if_pos rfl]
    omega
  refine ⟨fun u => ?_, k⟩
  by_cases z : u = t
  · rw [z]
    exact Nat.le_of_lt k
  · unfold phi
    rw [es_md es, ps]
    cases S.get u with
    | none => exact Nat.le_refl _
    | some x =>
      show phe (some (if u = t then f x else x)) + _ ≤ _
      rw [if_neg z]
      exact Nat.le_refl _
theorem phe_know (S : OSt) (t u : Str) : phe ((S.know t).get u) ≤ phe (S.get u) := by
  cases hn : S.get t with
  | some x =>
    rw [know_some hn]
    exact Nat.le_refl _
  | none =>
    rw [know_none hn, add_get _ u hn]
    by_cases z : u = t
    · rw [if_pos z, z, hn]
      decide
    · rw [if_neg z]
      exact Nat.le_refl _
theorem know_has (S : OSt) (t : Str) : ∃ e, (S.know t).get t = some e ∧ (S.get t = some e ∨ (S.get t = none ∧ e = Ent.new)) := by
  cases hn : S.get t with
  | some x =>
    rw [know_some hn]
    exact ⟨x, hn, .inl rfl⟩
  | none =>
    rw [know_none hn]
    exact ⟨Ent.new, by rw [add_get _ t hn, if_pos rfl], .inr ⟨rfl, rfl⟩⟩
theorem line_phi {S S' : OSt} {l : Ltr} (f : fitB S (lineOf l) = true) (nt : Noted S (lineOf l) S') : (∀ u, phi S' u ≤ phi S u) ∧ phi S' l.th < phi S l.th := by
  unfold Noted at nt
  rw [if_pos f] at nt
  cases l with
  | deed s r t h q n =>
    have nt : S' = S.lnup.got_ t h q n := nt
    have f : gotB S t h q n s = true := f
    obtain ⟨e, e1, e2⟩ := know_has S.lnup t
    have e2 : S.get t = some e ∨ (S.get t = none ∧ e = Ent.new) := e2
    have es : S'.es = md (S.lnup.know t).es t (gotF h q n) := by rw [nt]; rfl
    have ps : S'.ps = (S.lnup.know t).ps := by rw [nt]; rfl
    have st : e.st = .unk ∨ e.st = .given := by
      rcases e2 with e2 | ⟨_, e2⟩
      · rcases (gotB_says f).2 e e2 with z | z
        · exact .inl z
        · exact .inr z.1
      · rw [e2]
        exact .inl rfl
    obtain ⟨k1, k2⟩ := phi_mod (S := S.lnup.know t) (S' := S') (f := gotF h q n) e1 es ps (by
      show nb e.cb + nb e.rd + nb e.nt + nb e.pd + nst .held < nb e.cb + nb e.rd + nb e.nt + nb e.pd + nst e.st
      have a : nst e.st = 1 := by
        unfold nst
        rw [if_pos st]
      have b : nst .held = 0 := by decide
      omega)
    have g : ∀ u, phi (S.lnup.know t) u ≤ phi S u := fun u => by
      have := phe_know S.lnup t u
      unfold phi
      rw [know_ps]
      show _ + php (gt S.ps u) ≤ _
      have e0 : S.lnup.get u = S.get u := rfl
      rw [e0] at this
      omega
    exact ⟨fun u => Nat.le_trans (k1 u) (g u), Nat.lt_of_lt_of_le k2 (g t)⟩
  | receipt s r t n =>
    have nt : S' = S.lnup.mod t rdF := nt
    have f : (match S.get t with | none => false | some e => decide (e.st = .given ∧ n = e.ep) && !e.rd) = true := f
    cases he : S.get t with
    | none => rw [he] at f; cases f
    | some e =>
      rw [he] at f
      have f : (decide (e.st = .given ∧ n = e.ep) && !e.rd) = true := f
      rw [Bool.and_eq_true] at f
      refine phi_mod (f := rdF) he (by rw [nt]; rfl) (by rw [nt]; rfl) ?_
      show nb e.cb + nb true + nb e.nt + nb e.pd + nst e.st < nb e.cb + nb e.rd + nb e.nt + nb e.pd + nst e.st
      have z : e.rd = false := by simpa using f.2
      rw [z]
      have a : nb true = 0 := rfl
      have b : nb false = 1 := rfl
      omega
  | noted s r t =>
    have nt : S' = S.lnup.mod t ntF := nt
    have f : (match S.get t with | none => false | some e => decide (e.cb = true ∧ e.st = .given) && decide (some s = e.rcv) && !e.nt) = true := f
    cases he : S.get t with
    | none => rw [he] at f; cases f
    | some e =>
      rw [he] at f
      have f : (decide (e.cb = true ∧ e.st = .given) && decide (some s = e.rcv) && !e.nt) = true := f
      rw [Bool.and_eq_true] at f
      refine phi_mod (f := ntF) he (by rw [nt]; rfl) (by rw [nt]; rfl) ?_
      show nb e.cb + nb e.rd + nb true + nb e.pd + nst e.st < nb e.cb + nb e.rd + nb e.nt + nb e.pd + nst e.st
      have z : e.nt = false := by simpa using f.2
      rw [z]
      have a : nb true = 0 := rfl
      have b : nb false = 1 := rfl
      omega
  | paid s r t q =>
    have nt : S' = { S.lnup.mod t pdF with cr := S.cr + q } := nt
    have f : (match S.get t with | none => false | some e => decide (e.st = .used) && !e.pd && decide (q = e.qty)) = true := f
    cases he : S.get t with
    | none => rw [he] at f; cases f
    | some e =>
      rw [he] at f
      have f : (decide (e.st = .used) && !e.pd && decide (q = e.qty)) = true := f
      rw [Bool.and_eq_true, Bool.and_eq_true] at f
      refine phi_mod (f := pdF) he (by rw [nt]; rfl) (by rw [nt]; rfl) ?_
      show nb e.cb + nb e.rd + nb e.nt + nb true + nst e.st < nb e.cb + nb e.rd + nb e.nt + nb e.pd + nst e.st
      have z : e.pd = false := by simpa using f.1.2
      rw [z]
      have a : nb true = 0 := rfl
      have b : nb false = 1 := rfl
      omega
  | claim s r t q =>
    have nt : S' = { S.lnup with ps := S.ps ++ [(t, s, q)] } := nt
    have f : ((gt S.ps t).isNone && decide (1 ≤ q ∧ q ≤ 1000000000)) = true := f
    rw [Bool.and_eq_true] at f
    have hn : gt S.ps t = none := Option.isNone_iff_eq_none.mp f.1
    have k : ∀ u, gt S'.ps u = if u = t then some (s, q) else gt S.ps u := fun u => by
      rw [nt]
      exact gt_snoc t u (s, q) S.ps hn
    have ge : ∀ u, S'.get u = S.get u := fun u => by rw [nt]; rfl
    have kt : phi S' t < phi S t := by
      unfold phi
      rw [ge, k, if_pos rfl, hn]
      show _ + 0 < _ + 1
      omega
    refine ⟨fun u => ?_, kt⟩
    by_cases z : u = t
    · rw [z]
      exact Nat.le_of_lt kt
    · unfold phi
      rw [ge, k, if_neg z]
      exact Nat.le_refl _
  | notice s r t =>
    obtain ⟨c, c1, c2, nt⟩ := nt
    have f : ((match S.get t with | none => true | some e => !e.cb) && decide (s ≠ S.name)) = true := f
    rw [Bool.and_eq_true] at f
    have ps : S'.ps = S.ps := by
      rw [nt]
      show (S.lnup.know t).ps = _
      rw [know_ps]
      rfl
    have ge : ∀ u, S'.get u = ((S.lnup.know t).get u).map fun e => e.flag (c u) := fun u => by rw [nt, setcb_get]
    have le : ∀ u, phe (S'.get u) ≤ phe ((S.lnup.know t).get u) := fun u => by
      rw [ge]
      cases hu : (S.lnup.know t).get u with
      | none => exact Nat.le_refl _
      | some x =>
        show nb (c u) + nb x.rd + nb x.nt + nb x.pd + nst x.st ≤ nb x.cb + nb x.rd + nb x.nt + nb x.pd + nst x.st
        have : nb (c u) ≤ nb x.cb := by
          cases hc : x.cb with
          | true =>
            rw [c1 u x hu hc]
            exact Nat.le_refl _
          | false => exact nb_le _
        omega
    have kn : ∀ u, phe ((S.lnup.know t).get u) ≤ phe (S.get u) := phe_know S.lnup t
    refine ⟨fun u => ?_, ?_⟩
    · have := le u
      have := kn u
      unfold phi
      rw [ps]
      omega
    · show phi S' t < phi S t
      obtain ⟨e, e1, e2⟩ := know_has S.lnup t
      have e2 : S.get t = some e ∨ (S.get t = none ∧ e = Ent.new) := e2
      have k0 := kn t
      have z : e.cb = false := by
        rcases e2 with e2 | ⟨_, e2⟩
        · rw [e2] at f
          simpa using f.1
        · rw [e2]
          rfl
      unfold phi
      rw [ps, ge, e1]
      rw [e1] at k0
      show nb (c t) + nb e.rd + nb e.nt + nb e.pd + nst e.st + _ < _
      have k0 : nb e.cb + nb e.rd + nb e.nt + nb e.pd + nst e.st ≤ phe (S.get t) := k0
      rw [c2]
      rw [z] at k0
      have a : nb true = 0 := rfl
      have b : nb false = 1 := rfl
      omega
end LH
namespace LH
open PySem PySem.Spec PyProof.Rows L2
/-! ### calm: the sums -/
theorem nsum_le {α : Type} {f g : α → Nat} (h : ∀ u, f u ≤ g u) : ∀ l : List α, (l.map f).sum ≤ (l.map g).sum
  | [] => Nat.le_refl _
  | a :: r => by
    have := nsum_le h r
    have := h a
    rw [List.map_cons, List.map_cons, List.sum_cons, List.sum_cons]
    omega
theorem nsum_lt {α : Type} {f g : α → Nat} {t : α} (h : ∀ u, f u ≤ g u) (k : f t < g t) : ∀ {l : List α}, t ∈ l → (l.map f).sum < (l.map g).sum
  | a :: r, m => by
    rw [List.map_cons, List.map_cons, List.sum_cons, List.sum_cons]
    rcases List.mem_cons.mp m with e | m
    · have := nsum_le h r
      rw [← e]
      omega
    · have := nsum_lt h k m
      have := h a
      omega
theorem nsum_max {α : Type} {f : α → Nat} {b : Nat} (h : ∀ u, f u ≤ b) : ∀ l : List α, (l.map f).sum ≤ b * l.length
  | [] => Nat.zero_le _
  | a :: r => by
    have := nsum_max h r
    have := h a
    rw [List.map_cons, List.sum_cons, List.length_cons, Nat.mul_succ]
    omega
def psi (ts : List Str) (S : OSt) : Nat := (ts.map (phi S)).sum
def pst (ts : List Str) (F : Str → OSt) : Nat := (names4.map fun o => psi ts (F o)).sum
theorem psi_max (ts : List Str) (S : OSt) : psi ts S ≤ 6 * ts.length := nsum_max (phi_le S) ts
theorem pst_max (ts : List Str) (F : Str → OSt) : pst ts F ≤ 6 * ts.length * 4 := nsum_max (f := fun o => psi ts (F o)) (b := 6 * ts.length) (fun o => psi_max ts (F o)) names4
def wt : Ltr → Nat
  | .deed .. | .notice .. | .claim .. => 2
  | _ => 1
def wsum (ls : List Ltr) : Nat := (ls.map wt).sum
theorem wt_le (l : Ltr) : wt l ≤ 2 := by cases l <;> first | exact Nat.le_refl 2 | exact Nat.le_succ 1
theorem wt_pos (l : Ltr) : 1 ≤ wt l := by cases l <;> first | exact Nat.le_refl 1 | exact Nat.le_succ 1
theorem wsum_le (ls : List Ltr) : wsum ls ≤ 2 * ls.length := nsum_max wt_le ls
theorem wsum_len : ∀ ls : List Ltr, ls.length ≤ wsum ls
  | [] => Nat.le_refl _
  | a :: r => by
    have := wsum_len r
    have := wt_pos a
    unfold wsum at this ⊢
    rw [List.map_cons, List.sum_cons, List.length_cons]
    have := wsum_len r
    unfold wsum at this
    omega
theorem wsum_app (a b : List Ltr) : wsum (a ++ b) = wsum a + wsum b := by
  unfold wsum
  rw [List.map_append, List.sum_append]
theorem wsum_cons (a : Ltr) (b : List Ltr) : wsum (a :: b) = wt a + wsum b := by
  unfold wsum
  rw [List.map_cons, List.sum_cons]
section
variable {ts : List Str} {S S' : OSt} {l : Ltr}
theorem psi_line (ht : l.th ∈ ts) (nt : Noted S (lineOf l) S') : (fitB S (lineOf l) = true ∧ psi ts S' < psi ts S) ∨ (fitB S (lineOf l) = false ∧ S' = S) := by
  cases f : fitB S (lineOf l) with
  | true =>
    obtain ⟨a, b⟩ := line_phi f nt
    exact .inl ⟨rfl, nsum_lt a b ht⟩
  | false =>
    unfold Noted at nt
    rw [if_neg (by rw [f]; decide)] at nt
    exact .inr ⟨rfl, nt⟩
end
theorem dlv_S (Z : WS) (i : Nat) (l : Ltr) (S' : OSt) : (dlv Z i l S').S = fun p => if p = l.rcv then S' else Z.S p := rfl
theorem dlv_ns (Z : WS) {l : Ltr} {r : List Ltr} (S' : OSt) (h : Z.ns = l :: r) : (dlv Z 0 l S').ns = r ++ ansOf (Z.S l.rcv) S' l := by
  show Z.ns.eraseIdx 0 ++ _ = _
  rw [h]
  rfl
section
variable {ts : List Str} {Z : WS} {S' : OSt} {l : Ltr} {i : Nat}
theorem pst_line (hr : l.rcv ∈ names4) (ht : l.th ∈ ts) (nt : Noted (Z.S l.rcv) (lineOf l) S') : (fitB (Z.S l.rcv) (lineOf l) = true ∧ pst ts (dlv Z i l S').S < pst ts Z.S) ∨ (fitB (Z.S l.rcv) (lineOf l) = false ∧ S' = Z.S l.rcv ∧ (dlv Z i l S').S = Z.S) := by
  rcases psi_line ht nt with ⟨f, lt⟩ | ⟨f, e⟩
  · refine .inl ⟨f, nsum_lt (t := l.rcv) (fun o => ?_) ?_ hr⟩
    · rw [dlv_S]
      show psi ts (if o = l.rcv then S' else Z.S o) ≤ psi ts (Z.S o)
      by_cases z : o = l.rcv
      · rw [if_pos z, z]
        exact Nat.le_of_lt lt
      · rw [if_neg z]
        exact Nat.le_refl _
    · rw [dlv_S]
      show psi ts (if l.rcv = l.rcv then S' else Z.S l.rcv) < psi ts (Z.S l.rcv)
      rw [if_pos rfl]
      exact lt
  · refine .inr ⟨f, e, funext fun o => ?_⟩
    rw [dlv_S]
    show (if o = l.rcv then S' else Z.S o) = Z.S o
    by_cases z : o = l.rcv
    · rw [if_pos z, e, z]
    · rw [if_neg z]
/-- what the answers weigh -/
theorem ans_wt {Y : WS} {g : Gh} (c : Core Y ts g) (hr : l.rcv ∈ names4) (e : Y.S l.rcv = S') {S : OSt} : (S' = S → wsum (ansOf S S' l) < wt l) ∧ wsum (ansOf S S' l) < wt l + 4 * ts.length := by
  cases l with
  | deed s r t h q n => exact ⟨fun _ => (by decide : 1 < 2), (by show 1 < 2 + _; omega)⟩
  | receipt s r t n => exact ⟨fun _ => (by decide : 0 < 1), (by show 0 < 1 + _; omega)⟩
  | noted s r t => exact ⟨fun _ => (by decide : 0 < 1), (by show 0 < 1 + _; omega)⟩
  | paid s r t q => exact ⟨fun _ => (by decide : 0 < 1), (by show 0 < 1 + _; omega)⟩
  | claim s r t q =>
    have k : wsum (ansOf S S' (.claim s r t q)) < 2 := by
      unfold ansOf
      simp only
      split
      · exact (by decide : 1 < 2)
      · exact (by decide : 0 < 2)
    exact ⟨fun _ => k, (by show _ < 2 + _; omega)⟩
  | notice s r t =>
    have a := fur_small (S := S) c hr e
    have b := wsum_le (fur S S')
    refine ⟨fun z => ?_, ?_⟩
    · show wsum (.noted S.name s t :: fur S S') < 2
      have fe : fur S S' = [] := by
        rw [z]
        unfold fur
        rw [List.filter_eq_nil_iff]
        intro x hx
        simpa using hx
      rw [fe]
      exact (by decide : 1 < 2)
    · show wsum (.noted S.name s t :: fur S S') < 2 + 4 * ts.length
      rw [wsum_cons]
      show 1 + _ < _
      omega
end
/-! ### an answer that comes -/
def Rep : Ltr → Ltr → Prop
  | .deed s r t _ _ n, k => k = .receipt r s t n
  | .notice s r t, k => k = .noted r s t
  | .claim s r t q, k => k = .paid r s t q
  | _, _ => False
section
variable {ts : List Str} {Z : WS} {g : Gh} {o : Str}
theorem pend_get (c : Core Z ts g) (ho : o ∈ names4) {l : Ltr} (h : l ∈ (Z.S o).pend) : ∃ t e, (Z.S o).get t = some e ∧ l ∈ letOf o t e := by
  obtain ⟨p, hp, q⟩ := List.mem_flatMap.mp h
  rw [c.nm o ho] at q
  exact ⟨p.1, p.2, mem_gt (c.ek o ho) hp, q⟩
theorem let_cases {t : Str} {e : Ent} {l : Ltr} (h : l ∈ letOf o t e) : (e.st = .given ∧ e.rd = false ∧ l = .deed o (e.rcv.getD "") t (e.home.getD "") e.qty e.ep) ∨ (e.st = .given ∧ e.cb = true ∧ e.nt = false ∧ l = .notice o (e.rcv.getD "") t) ∨ (e.st = .used ∧ e.pd = false ∧ l = .claim o (e.home.getD "") t e.qty) := by
  unfold letOf at h
  rcases List.mem_append.mp h with h | h
  · split at h
    · next z =>
      rcases List.mem_append.mp h with h | h
      · split at h
        · next y => exact .inl ⟨z, y, List.mem_singleton.mp h⟩
        · cases h
      · split at h
        · next y => exact .inr (.inl ⟨z, y.1, y.2, List.mem_singleton.mp h⟩)
        · cases h
    · cases h
  · split at h
    · next z => exact .inr (.inr ⟨z.1, z.2, List.mem_singleton.mp h⟩)
    · cases h
theorem rep_fits (c : Core Z ts g) (ho : o ∈ names4) {l k : Ltr} (h : l ∈ (Z.S o).pend) (rp : Rep l k) : fitB (Z.S k.rcv) (lineOf k) = true := by
  obtain ⟨t, e, he, hl⟩ := pend_get c ho h
  rcases let_cases hl with ⟨z1, z2, z3⟩ | ⟨z1, z2, z3, z4⟩ | ⟨z1, z2, z3⟩
  · rw [z3] at rp
    have rp : k = .receipt (e.rcv.getD "") o t e.ep := rp
    rw [rp]
    show (match (Z.S o).get t with | none => false | some x => decide (x.st = .given ∧ e.ep = x.ep) && !x.rd) = true
    rw [he]
    show (decide (e.st = .given ∧ e.ep = e.ep) && !e.rd) = true
    rw [z2, decide_eq_true ⟨z1, rfl⟩]
    rfl
  · rw [z4] at rp
    have rp : k = .noted (e.rcv.getD "") o t := rp
    obtain ⟨r, r1, _⟩ := (c.en o ho t e he).giv z1
    rw [rp]
    show (match (Z.S o).get t with | none => false | some x => decide (x.cb = true ∧ x.st = .given) && decide (some (e.rcv.getD "") = x.rcv) && !x.nt) = true
    rw [he]
    show (decide (e.cb = true ∧ e.st = .given) && decide (some (e.rcv.getD "") = e.rcv) && !e.nt) = true
    rw [z3, decide_eq_true ⟨z2, z1⟩, r1, decide_eq_true (show some ((some r).getD "") = some r from rfl)]
    rfl
  · rw [z3] at rp
    have rp : k = .paid (e.home.getD "") o t e.qty := rp
    rw [rp]
    show (match (Z.S o).get t with | none => false | some x => decide (x.st = .used) && !x.pd && decide (e.qty = x.qty)) = true
    rw [he]
    show (decide (e.st = .used) && !e.pd && decide (e.qty = e.qty)) = true
    rw [z2, decide_eq_true z1, decide_eq_true rfl]
    rfl
theorem rep_ans (c : Core Z ts g) (ho : o ∈ names4) {l : Ltr} (h : l ∈ (Z.S o).pend) (nf : fitB (Z.S l.rcv) (lineOf l) = false) : ∃ k ∈ ansOf (Z.S l.rcv) (Z.S l.rcv) l, Rep l k := by
  obtain ⟨q1, q2, q3, q4⟩ := pend_li c ho l h
  obtain ⟨t, e, he, hl⟩ := pend_get c ho h
  have nm := c.nm l.rcv q2
  rcases let_cases hl with ⟨z1, z2, z3⟩ | ⟨z1, z2, z3, z4⟩ | ⟨z1, z2, z3⟩
  · subst z3
    exact ⟨_, List.mem_singleton.mpr rfl, congrArg (fun x => Ltr.receipt x o t e.ep) nm⟩
  · subst z4
    exact ⟨_, List.mem_cons_self, congrArg (fun x => Ltr.noted x o t) nm⟩
  · subst z3
    obtain ⟨w1, w2, w3⟩ := q4
    have nf : ((gt (Z.S (e.home.getD "")).ps t).isNone && decide (1 ≤ e.qty ∧ e.qty ≤ 1000000000)) = false := nf
    obtain ⟨_, y1, y2⟩ := c.hq t q3
    cases hp : gt (Z.S (e.home.getD "")).ps t with
    | none =>
      rw [hp, w2, decide_eq_true ⟨y1, y2⟩] at nf
      cases nf
    | some v =>
      obtain ⟨a, b⟩ := v
      obtain ⟨_, p2, p3, p4, p5⟩ := c.pay _ q2 t a b hp
      have us : a = o := by
        obtain ⟨e1, u1, u2⟩ := p5
        obtain ⟨e2, u3, u4⟩ := w3
        have l1 := ((c.en a p2 t e1 u1).poss ⟨by rw [u2]; decide, by rw [u2]; decide⟩).1
        have l2 := ((c.en o ho t e2 u3).poss ⟨by rw [u4]; decide, by rw [u4]; decide⟩).1
        rw [l1] at l2
        injection l2
      refine ⟨.paid (Z.S (e.home.getD "")).name o t e.qty, ?_, congrArg (fun x => Ltr.paid x o t e.qty) nm⟩
      show _ ∈ (if gt (Z.S (e.home.getD "")).ps t = some (o, e.qty) then [Ltr.paid (Z.S (e.home.getD "")).name o t e.qty] else [])
      rw [if_pos (by rw [hp, us, p4, w2])]
      exact List.mem_singleton.mpr rfl
end
end LH
namespace LH
open PySem PySem.Spec PyProof.Rows L2
/-! ### calm comes -/
structure Cb (X : WS) (ts : List Str) (g : Gh) : Prop where
  len : ts.length ≤ 180
  top : ∀ t ∈ ts, g.top t ≤ 1000000
  nx : ∀ o ∈ names4, (X.S o).nx ≤ 900000
  chs : ∀ o ∈ names4, chs (fun _ => false) (X.S o).es ≤ 800000
  ln : ∀ o ∈ names4, (X.S o).ln + psi ts (X.S o) ≤ 9000000
def CalmG (ts : List Str) (X : WS) : Prop := ∃ g, Core X ts g ∧ Cb X ts g ∧ X.ns.length ≤ 30000
def calmM (ts : List Str) (X : WS) : Nat := 2 * pst ts X.S + (if X.ns = [] then 0 else 1)
def wM (ts : List Str) (Z : WS) : Nat := wsum Z.ns + (4 * ts.length + 1) * pst ts Z.S
def CalmJ (ts : List Str) (Y Z : WS) : Prop := (∃ g, Core Z ts g ∧ Cb Z ts g) ∧ wM ts Z ≤ 14000000 ∧ pst ts Z.S ≤ pst ts Y.S ∧
  (pst ts Z.S < pst ts Y.S ∨ allpend Y = [] ∨ (Z.S = Y.S ∧ ∃ o ∈ names4, ∃ l ∈ (Y.S o).pend, l ∈ Z.ns ∨ ∃ k ∈ Z.ns, Rep l k))
section
variable {X Y Z : WS} {ts : List Str} {g : Gh} {l : Ltr} {r : List Ltr} {S' : OSt}
theorem Cb.num (b : Cb X ts g) : Num X ts g := ⟨by have := b.len; omega, b.top, b.nx, b.chs, fun o ho => by have := b.ln o ho; omega⟩
theorem Cb.dlv (c : Core Z ts g) (b : Cb Z ts g) {i : Nat} {g' : Gh} (e : g'.top = g.top) (hr : l.rcv ∈ names4) (ht : l.th ∈ ts) (nt : Noted (Z.S l.rcv) (lineOf l) S') : Cb (dlv Z i l S') ts g' := by
  obtain ⟨_, s2, s3, s4⟩ := noted_sz (c.ek _ hr) nt
  have pl := psi_line ht nt
  have key : ∀ (P : OSt → Prop), P S' → ∀ p ∈ names4, P (Z.S p) → P ((LH.dlv Z i l S').S p) := fun P h p hp q => by
    rw [dlv_S]
    show P (if p = l.rcv then S' else Z.S p)
    by_cases z : p = l.rcv
    · rw [if_pos z]
      exact h
    · rw [if_neg z]
      exact q
  refine ⟨b.len, fun t ht => by rw [e]; exact b.top t ht, fun p hp => ?_, fun p hp => ?_, fun p hp => ?_⟩
  · exact key (fun S => S.nx ≤ 900000) (by rw [s2]; exact b.nx _ hr) p hp (b.nx p hp)
  · exact key (fun S => LH.chs (fun _ => false) S.es ≤ 800000) (Nat.le_trans s3 (b.chs _ hr)) p hp (b.chs p hp)
  · refine key (fun S => S.ln + psi ts S ≤ 9000000) ?_ p hp (b.ln p hp)
    have a := b.ln _ hr
    rcases pl with ⟨f, lt⟩ | ⟨_, e⟩
    · have := s4 f
      omega
    · rw [e]
      exact a
theorem wM_dlv (c : Core Z ts g) (h : Z.ns = l :: r) (nt : Noted (Z.S l.rcv) (lineOf l) S') : wM ts (dlv Z 0 l S') < wM ts Z := by
  have hl : Z.ns[0]? = some l := by rw [h]; rfl
  obtain ⟨q1, q2, q3, q4⟩ := c.lt l (List.mem_of_getElem? hl)
  obtain ⟨g', c1, e1⟩ := core_dlv c hl nt
  have es : (dlv Z 0 l S').S l.rcv = S' := by
    rw [dlv_S]
    show (if l.rcv = l.rcv then S' else _) = _
    rw [if_pos rfl]
  obtain ⟨a1, a2⟩ := ans_wt c1 q2 es (S := Z.S l.rcv)
  unfold wM
  rw [dlv_ns Z S' h, wsum_app, h, wsum_cons]
  rcases pst_line (i := 0) q2 q3 nt with ⟨_, lt⟩ | ⟨_, e2, e3⟩
  · have m : (4 * ts.length + 1) * (pst ts (dlv Z 0 l S').S + 1) ≤ (4 * ts.length + 1) * pst ts Z.S := Nat.mul_le_mul_left _ lt
    rw [Nat.mul_add, Nat.mul_one] at m
    omega
  · have := a1 e2
    rw [e3]
    omega
theorem calmJ_dlv (j : CalmJ ts Y Z) (h : Z.ns = l :: r) (nt : Noted (Z.S l.rcv) (lineOf l) S') : CalmJ ts Y (dlv Z 0 l S') ∧ wM ts (dlv Z 0 l S') < wM ts Z := by
  obtain ⟨⟨g, c, b⟩, j2, j3, j4⟩ := j
  have hl : Z.ns[0]? = some l := by rw [h]; rfl
  obtain ⟨q1, q2, q3, q4⟩ := c.lt l (List.mem_of_getElem? hl)
  obtain ⟨g', c1, e1⟩ := core_dlv c hl nt
  have lt := wM_dlv c h nt
  refine ⟨⟨⟨g', c1, Cb.dlv c b e1 q2 q3 nt⟩, by omega, ?_⟩, lt⟩
  rcases pst_line (i := 0) q2 q3 nt with ⟨f, l2⟩ | ⟨f, e2, e3⟩
  · exact ⟨by omega, .inl (by omega)⟩
  · rw [e3]
    refine ⟨j3, ?_⟩
    rcases j4 with z | z | ⟨z, o, ho, l0, hp, w⟩
    · exact .inl z
    · exact .inr (.inl z)
    · refine .inr (.inr ⟨z, o, ho, l0, hp, ?_⟩)
      rw [dlv_ns Z S' h]
      rw [h] at w
      rw [← z] at hp
      rcases w with w | ⟨k, w, rp⟩
      · rcases List.mem_cons.mp w with w | w
        · rw [w] at hp ⊢
          obtain ⟨k, k1, k2⟩ := rep_ans c ho hp f
          exact .inr ⟨k, List.mem_append_right _ (by rw [e2]; exact k1), k2⟩
        · exact .inl (List.mem_append_left _ w)
      · rcases List.mem_cons.mp w with w | w
        · have := rep_fits c ho hp rp
          rw [w, f] at this
          cases this
        · exact .inr ⟨k, List.mem_append_left _ w, rp⟩
theorem calm_ok (ts : List Str) : CalmOk (CalmG ts) (calmM ts) where
  sml := fun Y ⟨g, c, b, n⟩ => ⟨c.small b.num, c.lok b.num, by omega⟩
  turn := fun Y ⟨g, c, b, n⟩ ne => by
    refine ⟨CalmJ ts Y, wM ts, ?_, ?_, fun Z l r S' j h nt => calmJ_dlv j h nt, ?_⟩
    · have li : ∀ l ∈ allpend Y, l.snd ∈ names4 ∧ l.rcv ∈ names4 ∧ l.th ∈ ts ∧ LI Y g l := fun l hl => by
        obtain ⟨o, ho, q⟩ := List.mem_flatMap.mp hl
        exact pend_li c ho l q
      have c1 := core_send c li
      refine ⟨⟨g, c1, ⟨b.len, b.top, b.nx, b.chs, b.ln⟩⟩, ?_, Nat.le_refl _, ?_⟩
      · show wsum (Y.ns ++ allpend Y) + (4 * ts.length + 1) * pst ts Y.S ≤ _
        have a1 := wsum_le (Y.ns ++ allpend Y)
        rw [List.length_append] at a1
        have tl := b.len
        have a2 : (allpend Y).length ≤ (2 * ts.length) * 4 := by
          unfold allpend
          rw [List.length_flatMap]
          have k : ∀ l : List Str, (∀ o ∈ l, o ∈ names4) → (l.map fun o => (Y.S o).pend.length).sum ≤ (2 * ts.length) * l.length := by
            intro l
            induction l with
            | nil => exact fun _ => Nat.zero_le _
            | cons o r ih =>
              intro q
              have x := pend_small c (q o List.mem_cons_self)
              have y := ih fun p hp => q p (List.mem_cons_of_mem _ hp)
              rw [List.map_cons, List.sum_cons, List.length_cons, Nat.mul_succ]
              omega
          exact k names4 fun _ h => h
        have a3 := pst_max ts Y.S
        have a4 : (4 * ts.length + 1) * pst ts Y.S ≤ 721 * 4320 := Nat.mul_le_mul (by omega) (by omega)
        omega
      · rcases nil_or (allpend Y) with z | z
        · exact .inr (.inl z)
        · refine .inr (.inr ⟨rfl, ?_⟩)
          cases q : allpend Y with
          | nil => exact absurd q z
          | cons l r =>
            have m : l ∈ allpend Y := by
              rw [q]
              exact List.mem_cons_self
            obtain ⟨o, ho, w⟩ := List.mem_flatMap.mp m
            exact ⟨o, ho, l, w, .inl (List.mem_append_right _ List.mem_cons_self)⟩
    · rintro Z ⟨⟨g, c, b⟩, j2, _⟩
      refine ⟨c.small b.num, c.lok b.num, ?_⟩
      have := wsum_len Z.ns
      unfold wM at j2
      omega
    · rintro Z ⟨⟨g, c, b⟩, j2, j3, j4⟩ e
      refine ⟨⟨g, c, b, by rw [e]; exact Nat.zero_le _⟩, ?_⟩
      unfold calmM
      rw [if_pos e]
      rcases j4 with z | z | ⟨z, o, ho, l0, hp, w⟩
      · omega
      · have y : Y.ns ≠ [] := ne.resolve_right fun q => q z
        rw [if_neg y]
        omega
      · rw [e] at w
        rcases w with w | ⟨k, w, _⟩ <;> cases w
end
/-! ### the law stands -/
def g0 : Gh := ⟨fun _ => "", fun _ => 0, fun _ => 0, fun _ => .way ""⟩
theorem core_new0 : Core newW [] g0 where
  nd := List.nodup_nil
  made := fun t ht => by cases ht
  hq := fun t ht => by cases ht
  nm := fun o _ => rfl
  nx := fun o _ => Int.le_refl _
  ek := fun o _ => List.nodup_nil
  pk := fun o _ => List.nodup_nil
  en := fun o _ t e h => by cases h
  pay := fun h _ t o q e => by cases e
  lt := fun l hl => by cases hl
  cr := fun o _ => rfl
theorem lawI_up {n : Nat} {X : WS} {ts : List Str} (h : LawI n X ts) : LawI (n + 1) X ts := by
  obtain ⟨g, c, tb, m⟩ := h
  exact ⟨g, c, top_up tb, by have := m.len; omega, fun o ho => by have := m.nx o ho; omega, fun o ho => by have := m.chs o ho; omega, fun o ho => by have := m.ln o ho; omega, by have := m.ns; omega⟩
theorem law_ok : LawOk LawI CalmG calmM where
  init := ⟨g0, core_new0, (fun t ht => by cases ht), Nat.le_refl _, (fun o _ => by show (1 : Int) ≤ 3 * ((0 : Nat) : Int) + 1; omega), fun o _ => Nat.le_refl _, fun o _ => Nat.le_refl _, Nat.le_refl _⟩
  sml := fun n X ts h q => by
    obtain ⟨g, c, tb, m⟩ := h
    have nu := num_of m tb q
    exact ⟨⟨c.small nu, c.lok nu, by have := m.ns; omega⟩, nu.len⟩
  step := fun n X ts X' new h q st => by
    rcases st with st | ⟨rfl, rfl⟩
    · exact law_step q h st
    · rw [List.append_nil]
      exact lawI_up h
  one := fun n X ts h t _ => by
    obtain ⟨g, c, _⟩ := h
    exact c.users_len t
  right := fun n X ts h => by
    obtain ⟨g, c, _⟩ := h
    exact c.right
  calm := fun n X ts h q => by
    refine ⟨?_, calm_ok ts⟩
    obtain ⟨g, c, tb, m⟩ := h
    have tl := m.len
    refine ⟨g, c, ⟨by omega, fun t ht => by have := tb t ht; omega, fun o ho => by have := m.nx o ho; omega, fun o ho => by have := m.chs o ho; omega, fun o ho => ?_⟩, by have := m.ns; omega⟩
    have := m.ln o ho
    have := psi_max ts (X.S o)
    omega
  fin := fun X ts h e1 e2 => by
    obtain ⟨g, c, _⟩ := h
    exact ⟨c.right, fun o ho => c.fin_cr e2 ho, c.fin_len e2⟩
end LH
namespace LH
open PySem PySem.Spec PyProof.Rows L2
theorem law_all {P : Program} {w : World} {K : PySem.W.Frag} {mg : Str → Option Value} {base : Heap} (T : Txt K mg) {fd : FuncData} (F : FnP K "law" "law" s_law [] (f_law K) fd) : FnOk P w K mg base CX0 14 (f_law K) fd ["_law_script"] (spLaw K) := by
  have x_Net_init : Ok_Net_init P w K mg base := ok_Net_init T 
  have x_Net_letters : Ok_Net_letters P w K mg base := ok_Net_letters T 
  have x_Net_send : Ok_Net_send P w K mg base := ok_Net_send T 
  have x_Net_at : Ok_Net_at P w K mg base := ok_Net_at T 
  have x_Net_take : Ok_Net_take P w K mg base := ok_Net_take T x_Net_at
  have x_Net_double : Ok_Net_double P w K mg base := ok_Net_double T x_Net_at
  have x_is_office : Ok_is_office P w K mg base := ok_is_office T 
  have x_id_of : Ok_id_of P w K mg base := ok_id_of T 
  have x_format_line : Ok_format_line P w K mg base := ok_format_line T 
  have x_whole_lines : Ok_whole_lines P w K mg base := ok_whole_lines T 
  have x_parse_journal : Ok_parse_journal P w K mg base := ok_parse_journal T x_whole_lines
  have x_check_quantity : Ok_check_quantity P w K mg base := ok_check_quantity T 
  have x_Entry_init : Ok_Entry_init P w K mg base := ok_Entry_init T 
  have x_Entry_begin : Ok_Entry_begin P w K mg base := ok_Entry_begin T 
  have x_Entry_told : Ok_Entry_told P w K mg base := ok_Entry_told T 
  have x_Book_init : Ok_Book_init P w K mg base := ok_Book_init T 
  have x_Book_entry : Ok_Book_entry P w K mg base := ok_Book_entry T 
  have x_Book_new_ids : Ok_Book_new_ids P w K mg base := ok_Book_new_ids T x_id_of
  have x_Book_fits_got : Ok_Book_fits_got P w K mg base := ok_Book_fits_got T x_Book_entry
  have x_Book_fits_answer : Ok_Book_fits_answer P w K mg base := ok_Book_fits_answer T x_Book_entry
  have x_Book_fits : Ok_Book_fits P w K mg base := ok_Book_fits T x_Book_fits_got x_Book_fits_answer
  have x_Book_begin : Ok_Book_begin P w K mg base := ok_Book_begin T x_Entry_init x_Entry_begin
  have x_Book_give : Ok_Book_give P w K mg base := ok_Book_give T 
  have x_Book_got : Ok_Book_got P w K mg base := ok_Book_got T x_Entry_init x_Entry_begin
  have x_Book_split : Ok_Book_split P w K mg base := ok_Book_split T x_Book_begin
  have x_Book_join : Ok_Book_join P w K mg base := ok_Book_join T x_Book_begin
  have x_Book_mark : Ok_Book_mark P w K mg base := ok_Book_mark T x_Entry_init
  have x_Book_answer : Ok_Book_answer P w K mg base := ok_Book_answer T 
  have x_Book_apply : Ok_Book_apply P w K mg base := ok_Book_apply T x_Book_begin x_Book_give x_Book_got x_Book_split x_Book_join x_Book_mark x_Book_answer
  have x_Office_init : Ok_Office_init P w K mg base := ok_Office_init T x_is_office x_Book_init x_parse_journal
  have x_Office_entry : Ok_Office_entry P w K mg base := ok_Office_entry T x_Book_entry x_Entry_told
  have x_Office_known : Ok_Office_known P w K mg base := ok_Office_known T 
  have x_Office_held : Ok_Office_held P w K mg base := ok_Office_held T x_Office_known
  have x_Office_payments : Ok_Office_payments P w K mg base := ok_Office_payments T 
  have x_Office_credit : Ok_Office_credit P w K mg base := ok_Office_credit T 
  have x_Office_write : Ok_Office_write P w K mg base := ok_Office_write T x_format_line x_Book_apply
  have x_Office_note : Ok_Office_note P w K mg base := ok_Office_note T x_Book_fits x_Office_write
  have x_Office_free : Ok_Office_free P w K mg base := ok_Office_free T x_Book_entry
  have x_Office_letters_of : Ok_Office_letters_of P w K mg base := ok_Office_letters_of T 
  have x_Office_pending : Ok_Office_pending P w K mg base := ok_Office_pending T x_Office_known x_Office_letters_of
  have x_Office_create : Ok_Office_create P w K mg base := ok_Office_create T x_check_quantity x_Book_new_ids x_Office_write
  have x_Office_give : Ok_Office_give P w K mg base := ok_Office_give T x_is_office x_Office_free x_Office_write x_Office_letters_of
  have x_Office_use : Ok_Office_use P w K mg base := ok_Office_use T x_Office_free x_Office_write x_Office_letters_of
  have x_Office_recall : Ok_Office_recall P w K mg base := ok_Office_recall T x_Book_entry x_Office_pending x_Office_write
  have x_Office_receive_deed : Ok_Office_receive_deed P w K mg base := ok_Office_receive_deed T x_Office_note
  have x_Office_receive_claim : Ok_Office_receive_claim P w K mg base := ok_Office_receive_claim T x_Office_note
  have x_Office_receive_notice : Ok_Office_receive_notice P w K mg base := ok_Office_receive_notice T x_Office_pending x_Office_note
  have x_Office_receive : Ok_Office_receive P w K mg base := ok_Office_receive T x_Office_receive_deed x_Office_receive_notice x_Office_receive_claim x_Office_note
  have x_Office_split : Ok_Office_split P w K mg base := ok_Office_split T x_Office_free x_check_quantity x_Book_new_ids x_Office_write
  have x_Office_join : Ok_Office_join P w K mg base := ok_Office_join T x_Office_free x_Book_new_ids x_Office_write
  have x_World_names : Ok_World_names P w K mg base := ok_World_names T 
  have x_World_office : Ok_World_office P w K mg base := ok_World_office T 
  have x_World_send : Ok_World_send P w K mg base := ok_World_send T x_Net_send
  have x_World_create : Ok_World_create P w K mg base := ok_World_create T x_Office_create x_World_office
  have x_World_give : Ok_World_give P w K mg base := ok_World_give T x_World_office x_World_send x_Office_give
  have x_World_use : Ok_World_use P w K mg base := ok_World_use T x_World_send x_Office_use x_World_office
  have x_World_split : Ok_World_split P w K mg base := ok_World_split T x_Office_split x_World_office
  have x_World_join : Ok_World_join P w K mg base := ok_World_join T x_Office_join x_World_office
  have x_World_recall : Ok_World_recall P w K mg base := ok_World_recall T x_World_send x_Office_recall x_World_office
  have x_World_tick : Ok_World_tick P w K mg base := ok_World_tick T x_World_send x_Office_pending x_World_office
  have x_World_waits : Ok_World_waits P w K mg base := ok_World_waits T x_World_names x_Office_pending x_World_office
  have x_World_deliver : Ok_World_deliver P w K mg base := ok_World_deliver T x_Net_take x_World_send x_Office_receive
  have x_World_init : Ok_World_init P w K mg base := ok_World_init T x_Net_init x_Office_init
  have x_World_calm : Ok_World_calm P w K mg base := ok_World_calm T x_World_waits x_Net_letters x_World_names x_World_tick x_World_deliver
  have x_law_names : Ok_law_names P w K mg base := ok_law_names T 
  have x_law_holder : Ok_law_holder P w K mg base := ok_law_holder T x_law_names x_Office_entry x_World_office
  have x_law_users : Ok_law_users P w K mg base := ok_law_users T x_law_names x_Office_entry x_World_office
  have x_law_sizes : Ok_law_sizes P w K mg base := ok_law_sizes T x_Office_entry x_World_office
  have x_law_joined : Ok_law_joined P w K mg base := ok_law_joined T x_Office_held x_World_office
  have x_law_net : Ok_law_net P w K mg base := ok_law_net T x_Net_letters x_World_deliver x_Net_take x_Net_double
  have x_law_payments : Ok_law_payments P w K mg base := ok_law_payments T x_law_names x_Office_payments x_World_office
  have x_law_right : Ok_law_right P w K mg base := ok_law_right T x_law_payments x_law_users x_law_names x_Office_credit x_World_office
  have x_law_step : Ok_law_step P w K mg base := ok_law_step T x_World_create x_law_names x_law_net x_law_holder x_World_give x_World_split x_law_sizes x_law_joined x_World_join x_World_use x_World_recall x_World_tick
  have x_law_try : Ok_law_try P w K mg base := ok_law_try T x_law_step
  exact ok_law_at T F x_World_init x_law_names x_law_try x_law_users x_law_right x_World_calm x_law_payments x_Office_credit x_World_office
theorem facts {P : Program} {w : World} {K : PySem.W.Frag} {h : Heap} {mg : Str → Option Value} {f : Addr} (X : K.In h) (G : h.Ns mainGlobals mg) (hfa : mg ("law" : Str) = some (.ref f)) (c : He.SaysD faL fnL K) :
    ∃ fd : FuncData, (∀ (s : Shared) (v : Value), BindsTo s fd ⟨[v], []⟩ [("_law_script", v)]) ∧ ∀ base : Heap, K.In base → base.Ns mainGlobals mg → FnOk P w K mg base CX0 14 f fd ["_law_script"] (spLaw K) := by
  have T := txt_of X G c
  obtain ⟨fd, F⟩ := T.d_law
  have e := hfa.symm.trans (He.glo_ok X G (c.fact 16 (f := .glo "law") rfl))
  cases e
  have b := FunD.bindsA (ps := ["_law_script"]) F fun _ _ _ _ _ _ us hl => match us, hl with | [_], _ => rfl
  exact ⟨fd, fun s v => b s [v] rfl, fun base _ _ => law_all T F⟩
end LH
open PySem PySem.W PySem.Calls PyProof.Rows
theorem PySem.Challenge.cw_letterheld_k42_used_and_paid_once_whole_holds : PySem.Challenge.rw_letterheld_k42_used_and_paid_once_whole.Holds := by
  w_on; o_law
  refine HandSHeadRun.head_any (r := OpenLaw.row PySem.Challenge.rw_letterheld_k42_used_and_paid_once_whole) (q := view (OpenLaw.row PySem.Challenge.rw_letterheld_k42_used_and_paid_once_whole).prog [51]) (H := LH.hk) (ob := LH.obsH) (M := 9000) (loose := LH.looseN) (d := HandSHeadRun.topDef (OpenLaw.row PySem.Challenge.rw_letterheld_k42_used_and_paid_once_whole).prog 51) (kwd := []) LH.obs_eq
    (by kernel_rfl) (fun s => by kernel_rfl) LH.run (by kernel_rfl) (by kernel_rfl) (by kernel_rfl) (by rfl) (by first | assumption | decide +kernel) (by decide +kernel) ⟨rfl, rfl, rfl, rfl, rfl, by decide +kernel⟩ ?hw ?hc
  case hw => w_witness2
  case hc =>
    refine L2.walk_ofE (l := PySem.Challenge.rw_letterheld_k42_used_and_paid_once_whole) (n := 63) (k := 14) (x := "_law_script") (CX := L2.CX0) rfl (by decide) (by kernel_rfl) ⟨rfl, by decide, by decide⟩ ?F (fun _ _ _ _ z => z)
    intro w mg fa h Y G hmg0
    obtain ⟨K, KX, c⟩ := Y
    have hmg : mg ("law" : PySem.Str) = some (.ref fa) := by
      have e : (HandSHeadRun.topDef (OpenLaw.row PySem.Challenge.rw_letterheld_k42_used_and_paid_once_whole).prog 51).name = ("law" : PySem.Str) := by kernel_rfl
      rw [← e]
      exact hmg0
    obtain ⟨fd, hb, hF⟩ := LH.facts (P := (PySem.Challenge.rw_letterheld_k42_used_and_paid_once_whole).prog) (w := w) KX G hmg c
    exact ⟨K, fd, LH.spLaw K, KX, hb, fun H a ns hl _ hS => ⟨a, ns, LH.LawI, LH.CalmG, LH.calmM, rfl, hS, LH.law_ok, fun _ => rfl⟩, hF⟩
